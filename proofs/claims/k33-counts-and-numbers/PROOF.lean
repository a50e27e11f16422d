import PyProof.Rows.All
import Wide.All
import OpenK.AllK
import Wide.FinOn
import PyProof.InstNe
import HandS.ForMost
import HandS.Property
import HandS.ClsMeth
import HandS.Star
import HandS.IsInst
import HandS.TupAny
import HandS.TupMul
import HandS.FStr
import HandS.SortInts
import HandS.DictComp
import KE.GoesEnum
import HandS.Style
import HandS.Steps
import HandS.Flow
import HandS.Codes
import PySem.Challenge.RW_tracktimes_k33_whole_counts_and_numbers
set_option Elab.async false
set_option linter.all false
set_option maxRecDepth 100000
set_option maxHeartbeats 4000000
namespace Tk
structure RV where
  early : List Int
  beg : Int
  len : Int
  offs : List Int
  deriving DecidableEq

def qhas (e : List Int) (b l : Int) (o : List Int) (t : Int) : Bool := if t < b then decide (t ∈ e) else decide ((t - b) % l ∈ o)
def RV.has (r : RV) (t : Int) : Bool := qhas r.early r.beg r.len r.offs t

structure WF (e : List Int) (b l : Int) (o : List Int) : Prop where
  es : e.Pairwise (· < ·)
  er : ∀ x ∈ e, 0 ≤ x ∧ x < b
  b0 : 0 ≤ b
  l1 : 1 ≤ l
  os : o.Pairwise (· < ·)
  ow : ∀ x ∈ o, 0 ≤ x ∧ x < l

def Per (S : Int → Bool) (b n : Int) : Prop := ∀ t, b ≤ t → S t = S (t + n)

structure Canon (r : RV) : Prop where
  wf : WF r.early r.beg r.len r.offs
  ml : ∀ n b, 1 ≤ n → Per r.has b n → r.len ≤ n
  mb : ∀ b, 0 ≤ b → Per r.has b r.len → r.beg ≤ b

theorem qhas_lo {e o : List Int} {b l t : Int} (h : t < b) : qhas e b l o t = decide (t ∈ e) := by
  unfold qhas; rw [if_pos h]
theorem qhas_hi {e o : List Int} {b l t : Int} (h : b ≤ t) : qhas e b l o t = decide ((t - b) % l ∈ o) := by
  unfold qhas; rw [if_neg (by omega)]
theorem qhas_neg {e o : List Int} {b l t : Int} (w : WF e b l o) (h : t < 0) : qhas e b l o t = false := by
  have hb := w.b0
  rw [qhas_lo (by omega)]
  refine decide_eq_false fun hm => ?_
  have := (w.er t hm).1
  omega
theorem emod_add_mul {t n k l : Int} : (t + l * k) % l = t % l := Int.add_mul_emod_self_left t l k
theorem qhas_per {e o : List Int} {b l : Int} (hl : 1 ≤ l) : Per (qhas e b l o) b l := by
  intro t h
  rw [qhas_hi h, qhas_hi (by omega)]
  have : (t + l - b) % l = (t - b) % l := by
    have e1 : t + l - b = (t - b) + l := by omega
    rw [e1, Int.add_emod_right]
  rw [this]

theorem Per.up {S : Int → Bool} {b c n : Int} (h : Per S b n) (hc : b ≤ c) : Per S c n := fun t ht => h t (by omega)
theorem Per.mulN {S : Int → Bool} {b n : Int} (hn : 0 ≤ n) (h : Per S b n) : ∀ k : Nat, Per S b (n * (k : Int))
  | 0 => fun t _ => by simp
  | k + 1 => fun t ht => by
    have ih := Per.mulN hn h k t ht
    have hk : 0 ≤ n * (k : Int) := Int.mul_nonneg hn (Int.natCast_nonneg k)
    have h2 := h (t + n * (k : Int)) (by omega)
    have e : t + n * ((k + 1 : Nat) : Int) = t + n * (k : Int) + n := by
      rw [Int.natCast_add, Int.mul_add]; simp; omega
    rw [e, ← h2, ih]
theorem Per.mul {S : Int → Bool} {b n k : Int} (hn : 0 ≤ n) (hk : 0 ≤ k) (h : Per S b n) : Per S b (n * k) := by
  have := Per.mulN hn h k.toNat
  rwa [Int.toNat_of_nonneg hk] at this
theorem Per.rem {S : Int → Bool} {b m n : Int} (hn : 1 ≤ n) (hm : 0 ≤ m) (h1 : Per S b m) (h2 : Per S b n) : Per S b (m % n) := by
  have hq : 0 ≤ m / n := Int.ediv_nonneg hm (by omega)
  have hr : 0 ≤ m % n := Int.emod_nonneg m (by omega)
  have h3 := Per.mul (k := m / n) (by omega) hq h2
  have e : n * (m / n) + m % n = m := Int.mul_ediv_add_emod m n
  intro t ht
  have a := h1 t ht
  have c := h3 (t + m % n) (by omega)
  have e2 : t + m % n + n * (m / n) = t + m := by omega
  rw [e2] at c
  rw [a, c]
theorem Per.congr {S T : Int → Bool} {b n : Int} (hb : 0 ≤ b) (hn : 0 ≤ n) (h : ∀ t, 0 ≤ t → S t = T t) (p : Per S b n) : Per T b n := fun t ht => by
  rw [← h t (by omega), ← h (t + n) (by omega)]
  exact p t ht

theorem sorted_ext : ∀ {l m : List Int}, l.Pairwise (· < ·) → m.Pairwise (· < ·) → (∀ x, x ∈ l ↔ x ∈ m) → l = m
  | [], [], _, _, _ => rfl
  | [], y :: m, _, _, h => absurd ((h y).mpr List.mem_cons_self) List.not_mem_nil
  | x :: l, [], _, _, h => absurd ((h x).mp List.mem_cons_self) List.not_mem_nil
  | x :: l, y :: m, hl, hm, h => by
    have hl' := List.pairwise_cons.mp hl
    have hm' := List.pairwise_cons.mp hm
    have e : x = y := by
      have h1 := (h x).mp List.mem_cons_self
      have h2 := (h y).mpr List.mem_cons_self
      rcases List.mem_cons.mp h1 with e | h1
      · exact e
      · rcases List.mem_cons.mp h2 with e | h2
        · exact e.symm
        · have a := hl'.1 y h2
          have c := hm'.1 x h1
          omega
    subst e
    refine congrArg (x :: ·) (sorted_ext hl'.2 hm'.2 fun z => ⟨fun hz => ?_, fun hz => ?_⟩)
    · rcases List.mem_cons.mp ((h z).mp (List.mem_cons_of_mem _ hz)) with e | q
      · subst e
        have := hl'.1 z hz
        omega
      · exact q
    · rcases List.mem_cons.mp ((h z).mpr (List.mem_cons_of_mem _ hz)) with e | q
      · subst e
        have := hm'.1 z hz
        omega
      · exact q
theorem RV.has_lo {r : RV} {t : Int} (h : t < r.beg) : r.has t = decide (t ∈ r.early) := qhas_lo h
theorem RV.has_hi {r : RV} {t : Int} (h : r.beg ≤ t) : r.has t = decide ((t - r.beg) % r.len ∈ r.offs) := qhas_hi h
theorem RV.has_off {r : RV} (w : WF r.early r.beg r.len r.offs) {x : Int} (h0 : 0 ≤ x) (h1 : x < r.len) : r.has (r.beg + x) = decide (x ∈ r.offs) := by
  rw [RV.has_hi (by omega)]
  have e : r.beg + x - r.beg = x := by omega
  rw [e, Int.emod_eq_of_lt h0 h1]
theorem RV.ext' {r s : RV} (h1 : r.early = s.early) (h2 : r.beg = s.beg) (h3 : r.len = s.len) (h4 : r.offs = s.offs) : r = s := by
  cases r; cases s; simp only at h1 h2 h3 h4; subst h1 h2 h3 h4; rfl
theorem canon_unique {r s : RV} (cr : Canon r) (cs : Canon s) (h : ∀ t, 0 ≤ t → r.has t = s.has t) : r = s := by
  have h' : ∀ t, 0 ≤ t → s.has t = r.has t := fun t ht => (h t ht).symm
  have l1 := cr.wf.l1
  have l2 := cs.wf.l1
  have b1 := cr.wf.b0
  have b2 := cs.wf.b0
  have pr : Per r.has r.beg r.len := qhas_per l1
  have ps : Per s.has s.beg s.len := qhas_per l2
  have el : r.len = s.len := Int.le_antisymm (cr.ml _ _ l2 (ps.congr b2 (by omega) h')) (cs.ml _ _ l1 (pr.congr b1 (by omega) h))
  have eb : r.beg = s.beg := Int.le_antisymm (cr.mb _ b2 (by rw [el]; exact ps.congr b2 (by omega) h')) (cs.mb _ b1 (by rw [← el]; exact pr.congr b1 (by omega) h))
  refine RV.ext' (sorted_ext cr.wf.es cs.wf.es fun x => ?_) eb el (sorted_ext cr.wf.os cs.wf.os fun x => ?_)
  · constructor
    · intro hx
      have q := cr.wf.er x hx
      have a := h x q.1
      rw [RV.has_lo q.2, RV.has_lo (by omega), decide_eq_true hx] at a
      exact of_decide_eq_true a.symm
    · intro hx
      have q := cs.wf.er x hx
      have a := h x q.1
      rw [RV.has_lo (by omega), RV.has_lo q.2, decide_eq_true hx] at a
      exact of_decide_eq_true a
  · constructor
    · intro hx
      have q := cr.wf.ow x hx
      have a := h (r.beg + x) (by omega)
      rw [RV.has_off cr.wf q.1 q.2, eb, RV.has_off cs.wf q.1 (by omega), decide_eq_true hx] at a
      exact of_decide_eq_true a.symm
    · intro hx
      have q := cs.wf.ow x hx
      have a := h (r.beg + x) (by omega)
      rw [RV.has_off cr.wf q.1 (by omega), eb, RV.has_off cs.wf q.1 q.2, decide_eq_true hx] at a
      exact of_decide_eq_true a
theorem Canon.ext {r s : RV} (cr : Canon r) (cs : Canon s) (h : ∀ t, 0 ≤ t → r.has t = s.has t) : r = s := canon_unique cr cs h

def Closed (l : Int) (o : List Int) (n : Int) : Prop := ∀ x ∈ o, (x + n) % l ∈ o
structure Shortest (l : Int) (o : List Int) (n : Int) : Prop where
  n1 : 1 ≤ n
  nl : n ≤ l
  dv : l % n = 0
  cl : Closed l o n
  mn : ∀ m, 1 ≤ m → m < n → ¬ (l % m = 0 ∧ Closed l o m)
theorem closed_all {l : Int} {o : List Int} (hl : 1 ≤ l) (ow : ∀ x ∈ o, 0 ≤ x ∧ x < l) : Closed l o l := fun x hx => by
  rw [Int.add_emod_right, Int.emod_eq_of_lt (ow x hx).1 (ow x hx).2]
  exact hx
theorem closed_mulN {l n : Int} {o : List Int} (hl : 1 ≤ l) (ow : ∀ x ∈ o, 0 ≤ x ∧ x < l) (c : Closed l o n) : ∀ k : Nat, Closed l o (n * (k : Int))
  | 0 => fun x hx => by
    simp only [Int.natCast_zero, Int.mul_zero, Int.add_zero]
    rw [Int.emod_eq_of_lt (ow x hx).1 (ow x hx).2]
    exact hx
  | k + 1 => fun x hx => by
    have ih := closed_mulN hl ow c k x hx
    have := c _ ih
    rw [Int.emod_add_emod] at this
    have e : x + n * ((k + 1 : Nat) : Int) = x + n * (k : Int) + n := by
      rw [Int.natCast_add, Int.mul_add]; simp; omega
    rw [e]
    exact this
theorem rest_mem {l n : Int} {o : List Int} (hl : 1 ≤ l) (ow : ∀ x ∈ o, 0 ≤ x ∧ x < l) (n1 : 1 ≤ n) (dv : l % n = 0) (c : Closed l o n) {t : Int} :
    t % l ∈ o ↔ ∃ x ∈ o, x % n = t % n := by
  have dl : n ∣ l := Int.dvd_of_emod_eq_zero dv
  constructor
  · intro h
    exact ⟨_, h, Int.emod_emod_of_dvd t dl⟩
  · rintro ⟨x, hx, e⟩
    have hd : n ∣ (t - x) := by
      have : (t - x) % n = 0 := by
        rw [Int.sub_emod, e, Int.sub_self, Int.zero_emod]
      exact Int.dvd_of_emod_eq_zero this
    obtain ⟨k, hk⟩ := hd
    have hj : 0 ≤ k + l * (k.natAbs : Int) := by
      have h1 : (k.natAbs : Int) * 1 ≤ (k.natAbs : Int) * l := Int.mul_le_mul_of_nonneg_left hl (Int.natCast_nonneg _)
      rw [Int.mul_comm l]
      omega
    have := closed_mulN hl ow c (k + l * (k.natAbs : Int)).toNat x hx
    rw [Int.toNat_of_nonneg hj] at this
    have e2 : x + n * (k + l * (k.natAbs : Int)) = t + l * (n * (k.natAbs : Int)) := by
      rw [Int.mul_add]
      have : n * (l * (k.natAbs : Int)) = l * (n * (k.natAbs : Int)) := by
        rw [← Int.mul_assoc, ← Int.mul_assoc, Int.mul_comm n l]
      rw [this]
      omega
    rw [e2, Int.add_mul_emod_self_left] at this
    exact this
theorem closed_of_per {e o : List Int} {b l n c : Int} (w : WF e b l o) (n1 : 1 ≤ n) (p : Per (qhas e b l o) c n) : Closed l o n := fun x hx => by
  have hl := w.l1
  have q := w.ow x hx
  have hk : 0 ≤ (c.natAbs : Int) := Int.natCast_nonneg _
  have hm : (c.natAbs : Int) * 1 ≤ (c.natAbs : Int) * l := Int.mul_le_mul_of_nonneg_left hl hk
  have hb0 := w.b0
  have hc : c ≤ b + x + l * (c.natAbs : Int) := by rw [Int.mul_comm l]; omega
  have hb : b ≤ b + x + l * (c.natAbs : Int) := by rw [Int.mul_comm l]; omega
  have a := p _ hc
  rw [qhas_hi hb, qhas_hi (by omega)] at a
  have e1 : (b + x + l * (c.natAbs : Int) - b) % l = x := by
    have : b + x + l * (c.natAbs : Int) - b = x + l * (c.natAbs : Int) := by omega
    rw [this, Int.add_mul_emod_self_left, Int.emod_eq_of_lt q.1 q.2]
  have e2 : (b + x + l * (c.natAbs : Int) + n - b) % l = (x + n) % l := by
    have : b + x + l * (c.natAbs : Int) + n - b = (x + n) + l * (c.natAbs : Int) := by omega
    rw [this, Int.add_mul_emod_self_left]
  rw [e1, e2, decide_eq_true hx] at a
  exact of_decide_eq_true a.symm
theorem shortest_least {e o : List Int} {b l n : Int} (w : WF e b l o) (s : Shortest l o n) : ∀ (k : Nat) (m c : Int), m.toNat = k → 1 ≤ m → Per (qhas e b l o) c m → n ≤ m := by
  intro k
  induction k using Nat.strongRecOn with
  | ind k ih =>
    intro m c hk hm p
    have hl := w.l1
    have hr0 : 0 ≤ l % m := Int.emod_nonneg l (by omega)
    have hr1 : l % m < m := Int.emod_lt_of_pos l (by omega)
    by_cases hr : l % m = 0
    · have cl := closed_of_per w hm p
      rcases Int.lt_or_le m n with h | h
      · exact absurd ⟨hr, cl⟩ (s.mn m hm h)
      · exact h
    · have pl : Per (qhas e b l o) (max b c) l := (qhas_per hl).up (by omega)
      have pm : Per (qhas e b l o) (max b c) m := p.up (by omega)
      have pr := Per.rem hm (by omega) pl pm
      have := ih (l % m).toNat (by omega) (l % m) _ rfl (by omega) pr
      omega
end Tk

namespace Tk
theorem mod_eq_iff {a b n : Int} : a % n = b % n ↔ n ∣ (a - b) := by
  constructor
  · intro h
    exact Int.dvd_of_emod_eq_zero (by rw [Int.sub_emod, h, Int.sub_self, Int.zero_emod])
  · intro h
    have h0 := Int.emod_eq_zero_of_dvd h
    have e : a = b + (a - b) := by omega
    rw [e, Int.add_emod, h0, Int.add_zero, Int.emod_emod]

def cyc (o : List Int) (n t : Int) : Bool := decide (t % n ∈ o.map (· % n))
theorem cyc_iff {o : List Int} {n t : Int} : cyc o n t = true ↔ ∃ x ∈ o, x % n = t % n := by
  unfold cyc
  rw [decide_eq_true_iff, List.mem_map]
theorem cyc_hi {e o : List Int} {b l n t : Int} (w : WF e b l o) (s : Shortest l o n) (h : b ≤ t) : qhas e b l o t = cyc o n (t - b) := by
  rw [qhas_hi h, Bool.eq_iff_iff, decide_eq_true_iff, cyc_iff]
  exact rest_mem w.l1 w.ow s.n1 s.dv s.cl
theorem cyc_per {o : List Int} {n t : Int} : cyc o n (t + n) = cyc o n t := by
  unfold cyc; rw [Int.add_emod_right]

theorem take_lt {e : List Int} {k : Nat} {x c : Int} (hs : ∀ y ∈ e.take k, y < c) (hd : ∀ y ∈ e.drop k, c ≤ y) : x ∈ e.take k ↔ x ∈ e ∧ x < c := by
  constructor
  · intro h
    exact ⟨List.mem_of_mem_take h, hs x h⟩
  · rintro ⟨h, hx⟩
    rw [← List.take_append_drop k e] at h
    rcases List.mem_append.mp h with q | q
    · exact q
    · have := hd x q
      omega
theorem last_early {e : List Int} {k : Nat} {c : Int} (es : e.Pairwise (· < ·)) (hs : ∀ y ∈ e.take k, y < c) (hd : ∀ y ∈ e.drop k, c ≤ y) (hk : k ≤ e.length) :
    (c - 1 ∈ e) ↔ ∃ h : 0 < k, e[k - 1]'(by omega) = c - 1 := by
  constructor
  · intro h
    have hm : c - 1 ∈ e.take k := (take_lt hs hd).mpr ⟨h, by omega⟩
    obtain ⟨i, hi, ei⟩ := List.getElem_of_mem hm
    have hl : (e.take k).length = k := by rw [List.length_take]; omega
    rw [hl] at hi
    refine ⟨by omega, ?_⟩
    have ei' : e[i] = c - 1 := by rw [← ei, List.getElem_take]
    by_cases q : i = k - 1
    · subst q; exact ei'
    · have lt := List.pairwise_iff_getElem.mp es i (k - 1) (by omega) (by omega) (by omega)
      have m2 : e[k - 1] ∈ e.take k := by
        rw [List.mem_take_iff_getElem]
        exact ⟨k - 1, by omega, rfl⟩
      have := hs _ m2
      omega
  · rintro ⟨h, ei⟩
    rw [← ei]
    exact List.getElem_mem _
theorem take_back {e : List Int} {k : Nat} {c : Int} (es : e.Pairwise (· < ·)) (hs : ∀ y ∈ e.take k, y < c) (hd : ∀ y ∈ e.drop k, c ≤ y) (hk : k ≤ e.length) :
    (c - 1 ∈ e → (∀ y ∈ e.take (k - 1), y < c - 1) ∧ (∀ y ∈ e.drop (k - 1), c - 1 ≤ y)) ∧ (c - 1 ∉ e → (∀ y ∈ e.take k, y < c - 1) ∧ (∀ y ∈ e.drop k, c - 1 ≤ y)) := by
  refine ⟨fun h => ?_, fun h => ⟨fun y hy => ?_, fun y hy => ?_⟩⟩
  · obtain ⟨h0, ei⟩ := (last_early es hs hd hk).mp h
    constructor
    · intro y hy
      obtain ⟨i, hi, e1⟩ := List.mem_take_iff_getElem.mp hy
      have := List.pairwise_iff_getElem.mp es i (k - 1) (by omega) (by omega) (by omega)
      omega
    · intro y hy
      obtain ⟨i, hi, e1⟩ := List.mem_drop_iff_getElem.mp hy
      by_cases q : i = 0
      · subst q
        simp only [Nat.add_zero] at e1
        omega
      · have := List.pairwise_iff_getElem.mp es (k - 1) (i + (k - 1)) (by omega) (by omega) (by omega)
        have e2 : e[i + (k - 1)]'(by omega) = y := by rw [← e1]; congr 1; omega
        omega
  · have a := hs y hy
    by_cases q : y = c - 1
    · subst q
      exact absurd (List.mem_of_mem_take hy) h
    · omega
  · have := hd y hy
    omega

theorem normal_canon {e o e' o' : List Int} {b l n c : Int} (w : WF e b l o) (ho : o ≠ []) (s : Shortest l o n) (h0 : 0 ≤ c) (hb : c ≤ b)
    (same : ∀ t, c ≤ t → t < b → decide (t ∈ e) = cyc o n (t - b)) (stop : c = 0 ∨ decide (c - 1 ∈ e) ≠ cyc o n (c - 1 - b))
    (es' : e'.Pairwise (· < ·)) (me : ∀ x, x ∈ e' ↔ x ∈ e ∧ x < c) (os' : o'.Pairwise (· < ·)) (mo : ∀ y, y ∈ o' ↔ ∃ x ∈ o, (x % n + (b - c)) % n = y) :
    Canon ⟨e', c, n, o'⟩ ∧ ∀ t, RV.has ⟨e', c, n, o'⟩ t = qhas e b l o t := by
  have hn := s.n1
  have hi : ∀ t, c ≤ t → qhas e b l o t = cyc o n (t - b) := fun t ht => by
    rcases Int.lt_or_le t b with q | q
    · rw [qhas_lo q]; exact same t ht q
    · exact cyc_hi w s q
  have hi' : ∀ t, c ≤ t → qhas e' c n o' t = cyc o n (t - b) := fun t ht => by
    rw [qhas_hi ht, Bool.eq_iff_iff, decide_eq_true_iff, cyc_iff, mo]
    have key : ∀ x : Int, ((x % n + (b - c)) % n = (t - c) % n) ↔ x % n = (t - b) % n := fun x => by
      rw [Int.emod_add_emod, mod_eq_iff, mod_eq_iff]
      have : x + (b - c) - (t - c) = x - (t - b) := by omega
      rw [this]
    constructor
    · rintro ⟨x, hx, q⟩; exact ⟨x, hx, (key x).mp q⟩
    · rintro ⟨x, hx, q⟩; exact ⟨x, hx, (key x).mpr q⟩
  have eqv : ∀ t, qhas e' c n o' t = qhas e b l o t := fun t => by
    rcases Int.lt_or_le t c with q | q
    · rw [qhas_lo q, qhas_lo (by omega), Bool.eq_iff_iff, decide_eq_true_iff, decide_eq_true_iff, me]
      exact ⟨fun z => z.1, fun z => ⟨z, q⟩⟩
    · rw [hi' t q, hi t q]
  have w' : WF e' c n o' := ⟨es', fun x hx => ⟨(w.er x ((me x).mp hx).1).1, ((me x).mp hx).2⟩, h0, hn, os', fun y hy => by
    obtain ⟨x, _, q⟩ := (mo y).mp hy
    rw [← q]
    exact ⟨Int.emod_nonneg _ (by omega), Int.emod_lt_of_pos _ (by omega)⟩⟩
  have cg : ∀ m d, Per (RV.has ⟨e', c, n, o'⟩) d m → Per (qhas e b l o) d m := fun m d p t ht => by
    rw [← eqv t, ← eqv (t + m)]
    exact p t ht
  refine ⟨⟨w', fun m d hm p => shortest_least w s _ m d rfl hm (cg m d p), fun d hd p => ?_⟩, eqv⟩
  rcases Int.lt_or_le d c with q | q
  · exfalso
    rcases stop with z | z
    · omega
    · have a := cg n d p (c - 1) (by omega)
      have e1 : c - 1 + n - b = (c - 1 - b) + n := by omega
      rw [qhas_lo (by omega), hi (c - 1 + n) (by omega), e1, cyc_per] at a
      exact z a
  · exact q
theorem finite_canon {e : List Int} {b : Int} (es : e.Pairwise (· < ·)) (e0 : ∀ x ∈ e, 0 ≤ x) (hb : (e = [] ∧ b = 0) ∨ ∃ z ∈ e, b = z + 1 ∧ ∀ x ∈ e, x ≤ z) :
    Canon ⟨e, b, 1, []⟩ ∧ ∀ t, RV.has ⟨e, b, 1, []⟩ t = decide (t ∈ e) := by
  have hx : ∀ x ∈ e, 0 ≤ x ∧ x < b := fun x hx => by
    rcases hb with ⟨rfl, _⟩ | ⟨z, _, h2, h3⟩
    · exact absurd hx List.not_mem_nil
    · exact ⟨e0 x hx, by have := h3 x hx; omega⟩
  have b0 : 0 ≤ b := by
    rcases hb with ⟨_, h⟩ | ⟨z, h1, h2, _⟩
    · omega
    · have := e0 z h1; omega
  have eqv : ∀ t, RV.has ⟨e, b, 1, []⟩ t = decide (t ∈ e) := fun t => by
    rcases Int.lt_or_le t b with q | q
    · exact RV.has_lo q
    · rw [RV.has_hi q]
      simp only [List.not_mem_nil, decide_false]
      exact (decide_eq_false fun h => by have := (hx t h).2; omega).symm
  refine ⟨⟨⟨es, hx, b0, Int.le_refl 1, List.Pairwise.nil, fun _ h => absurd h List.not_mem_nil⟩, fun n _ hn _ => hn, fun d hd p => ?_⟩, eqv⟩
  rcases hb with ⟨_, h⟩ | ⟨z, h1, h2, h3⟩
  · show b ≤ d
    omega
  · show b ≤ d
    rcases Int.lt_or_le d b with q | q
    · exfalso
      have up : ∀ k : Nat, z + (k : Int) ∈ e := fun k => by
        induction k with
        | zero => simpa using h1
        | succ k ih =>
          have a := p (z + k) (by omega)
          rw [eqv, eqv, decide_eq_true ih] at a
          have := of_decide_eq_true a.symm
          have e1 : z + ((k + 1 : Nat) : Int) = z + k + 1 := by omega
          rw [e1]; exact this
      have := h3 _ (up 1)
      omega
    · exact q

theorem WF.has_per {e o : List Int} {b l c k : Int} (w : WF e b l o) (hc : b ≤ c) (hk : 0 ≤ k) : Per (qhas e b l o) c (l * k) := ((qhas_per w.l1).up hc).mul (by have := w.l1; omega) hk
theorem raw_set {S : Int → Bool} {e o : List Int} {b l : Int} (b0 : 0 ≤ b) (l1 : 1 ≤ l) (neg : ∀ t, t < 0 → S t = false) (p : Per S b l) (es : e.Pairwise (· < ·)) (me : ∀ x, x ∈ e ↔ S x = true ∧ x < b) (os : o.Pairwise (· < ·))
    (mo : ∀ x, x ∈ o ↔ S (x + b) = true ∧ 0 ≤ x ∧ x < l) : WF e b l o ∧ ∀ t, qhas e b l o t = S t := by
  refine ⟨⟨es, fun x hx => ?_, b0, l1, os, fun x hx => ((mo x).mp hx).2⟩, fun t => ?_⟩
  · have q := (me x).mp hx
    refine ⟨?_, q.2⟩
    rcases Int.lt_or_le x 0 with z | z
    · rw [neg x z] at q
      exact absurd q.1 (by simp)
    · exact z
  · rcases Int.lt_or_le t b with q | q
    · rw [qhas_lo q]
      cases h : S t with
      | true => exact decide_eq_true ((me t).mpr ⟨h, q⟩)
      | false => exact decide_eq_false fun z => by rw [((me t).mp z).1] at h; cases h
    · rw [qhas_hi q]
      have r0 : 0 ≤ (t - b) % l := Int.emod_nonneg _ (by omega)
      have r1 : (t - b) % l < l := Int.emod_lt_of_pos _ (by omega)
      have e1 : l * ((t - b) / l) + (t - b) % l = t - b := Int.mul_ediv_add_emod _ _
      have d0 : 0 ≤ (t - b) / l := Int.ediv_nonneg (by omega) (by omega)
      have a := (p.mul (by omega) d0) ((t - b) % l + b) (by omega)
      have e2 : (t - b) % l + b + l * ((t - b) / l) = t := by omega
      rw [e2] at a
      rw [← a]
      cases h : S ((t - b) % l + b) with
      | true => exact decide_eq_true ((mo _).mpr ⟨h, r0, r1⟩)
      | false => exact decide_eq_false fun z => by rw [((mo _).mp z).1] at h; cases h
end Tk

namespace TkL
open PySem PySem.Spec PyProof.Rows L2

structure DefN (P : Program) (w : World) (K : PySem.W.Frag) (mg : Str → Option Value) (base : Heap) (CX : CXT) (k : Nat) (x : Str) (ps : List Str) (sp : Sp) : Prop where
  ex : ∃ f fd, mg x = some (.ref f) ∧ PySem.W.keepIn K (.ref f) = true ∧ FnOk P w K mg base CX k f fd ps sp ∧ Binds K fd ps []
structure MetN (P : Program) (w : World) (K : PySem.W.Frag) (mg : Str → Option Value) (base : Heap) (CX : CXT) (k : Nat) (C : Addr) (m : Str) (ps : List Str) (sp : Sp) : Prop where
  ex : ∃ f fd, PySem.W.findIn K (.ref C) m = some (some (.ref f)) ∧ PySem.W.isFn K (.ref f) = true ∧ PySem.W.fnIn K f = true ∧ PySem.W.keepIn K (.ref f) = true ∧ FnOk P w K mg base CX k f fd ps sp ∧ Binds K fd ps []
structure PropN (P : Program) (w : World) (K : PySem.W.Frag) (mg : Str → Option Value) (base : Heap) (CX : CXT) (k : Nat) (C : Addr) (m : Str) (sp : Sp) : Prop where
  ex : ∃ p g fd, PropOf K C m p g ∧ FnOk P w K mg base CX k g fd ["self"] sp ∧ Binds K fd ["self"] []
structure CmN (P : Program) (w : World) (K : PySem.W.Frag) (mg : Str → Option Value) (base : Heap) (CX : CXT) (k : Nat) (C : Addr) (m : Str) (sp : Sp) : Prop where
  ex : ∃ mc p g, ClX.CRead K C mc ∧ ClX.CMet K C mc m p g ∧ FnR P w K mg base CX k g sp
structure OwnC (K : PySem.W.Frag) (C : Addr) : Prop where
  cl : Cls K C
  sf : PySem.W.selfFirst K C = true
  ns : PySem.W.noSeq K C = true
section
variable {P : Program} {w : World} {K : PySem.W.Frag} {mg : Str → Option Value} {base : Heap} {CX : CXT} {k j : Nat} {C : Addr} {m x : Str} {ps : List Str} {sp sp' : Sp}
theorem DefN.mono (F : DefN P w K mg base CX j x ps sp) (h : j ≤ k) : DefN P w K mg base CX k x ps sp := by
  obtain ⟨f, fd, a, b, c, d⟩ := F.ex
  exact ⟨f, fd, a, b, c.mono h, d⟩
theorem DefN.imp (F : DefN P w K mg base CX k x ps sp) (h : ∀ vs H Q E, sp' vs H Q E → sp vs H Q E) : DefN P w K mg base CX k x ps sp' := by
  obtain ⟨f, fd, a, b, c, d⟩ := F.ex
  exact ⟨f, fd, a, b, c.imp h, d⟩
theorem MetN.raw (F : MetN P w K mg base CX k C m ps sp) : ∃ f, PySem.W.findIn K (.ref C) m = some (some (.ref f)) ∧ PySem.W.isFn K (.ref f) = true ∧ PySem.W.fnIn K f = true ∧ FnR P w K mg base CX k f sp := by
  obtain ⟨f, fd, a, b, c, _, d, e⟩ := F.ex
  refine ⟨f, a, b, c, ?_⟩
  have z := d.raw e .nil
  simpa only [List.append_nil] using z
theorem MetN.mono (F : MetN P w K mg base CX j C m ps sp) (h : j ≤ k) : MetN P w K mg base CX k C m ps sp := by
  obtain ⟨f, fd, a, b, c, d, e, g⟩ := F.ex
  exact ⟨f, fd, a, b, c, d, e.mono h, g⟩
theorem MetN.imp (F : MetN P w K mg base CX k C m ps sp) (h : ∀ vs H Q E, sp' vs H Q E → sp vs H Q E) : MetN P w K mg base CX k C m ps sp' := by
  obtain ⟨f, fd, a, b, c, d, e, g⟩ := F.ex
  exact ⟨f, fd, a, b, c, d, e.imp h, g⟩
end
def tDef (sp : Sp) (E : XK) (t : TA) : TE := fun σ H Q => t σ H fun vs H1 => sp vs H1 Q E
def tMet (C : Addr) (m : Str) (sp : Sp) (E : XK) (ta : TE) (t : TA) : TE := fun σ H Q => ta σ H fun x H1 => ∃ a dx fs, x = .ref a ∧ H1 a = some (.ins C dx fs) ∧ fs.lookup m = none ∧ t σ H1 fun vs H2 => sp (x :: vs) H2 Q E
def tPrp (C : Addr) (sp : Sp) (E : XK) (ta : TE) : TE := fun σ H Q => ta σ H fun x H1 => ∃ a dx fs, x = .ref a ∧ H1 a = some (.ins C dx fs) ∧ sp [.ref a] H1 Q E
theorem tCall_nil {sp : Sp} {E : XK} {t : TA} : tCall sp [] E t = tDef sp E t := by
  funext σ H Q
  show t σ H (fun vs H1 => sp (vs ++ []) H1 Q E) = t σ H (fun vs H1 => sp vs H1 Q E)
  simp only [List.append_nil]
theorem tMeth_nil {C : Addr} {m : Str} {sp : Sp} {E : XK} {ta : TE} {t : TA} : tMeth C m sp [] E ta t = tMet C m sp E ta t := by
  funext σ H Q
  show ta σ H (fun x H1 => ∃ a dx fs, x = .ref a ∧ H1 a = some (.ins C dx fs) ∧ fs.lookup m = none ∧ t σ H1 fun vs H2 => sp (x :: (vs ++ [])) H2 Q E) = ta σ H fun x H1 => ∃ a dx fs, x = .ref a ∧ H1 a = some (.ins C dx fs) ∧ fs.lookup m = none ∧ t σ H1 fun vs H2 => sp (x :: vs) H2 Q E
  simp only [List.append_nil]
section
variable {X : Cx} {CX : CXT} {k : Nat} {C : Addr} {m x : Str} {ps : List Str} {sp : Sp} {E : XK} {o e : Expr} {es : List Expr} {ta te tf : TE} {t : TA} {p apos pos : Pos}
theorem pe_def (F : DefN X.prog X.w X.K X.mg X.base CX k x ps sp) (hr : Room k X.A) (hx : Passes CX X E) (ha : PA X (e :: es) t) (hg : Gl X x := by rfl) (hdb : (x == ("__debug__" : Str)) = false := by decide)
    (he : starEach (e :: es) X.env = (false, eval e X.env) :: starEach es X.env := by rfl) (hpl : (backTo pos (starEach es X.env)).any (·.1) = false := by rfl) : PE X (.Call (.Name x p) (e :: es) [] pos) (tDef sp E t) := by
  obtain ⟨f, fd, a, b, c, d⟩ := F.ex
  have z := pe_call (p := p) (pos := pos) (dvs := []) c hr hg a b d .nil hx ha hdb he hpl
  rwa [tCall_nil] at z
theorem pe_def0 (F : DefN X.prog X.w X.K X.mg X.base CX k x ps sp) (hr : Room k X.A) (hx : Passes CX X E) (hg : Gl X x := by rfl) (hdb : (x == ("__debug__" : Str)) = false := by decide) : PE X (.Call (.Name x p) [] [] pos) (tDef sp E tNil) := by
  obtain ⟨f, fd, a, b, c, d⟩ := F.ex
  have z := pe_call0 (p := p) (pos := pos) (dvs := []) c hr hg a b d .nil hx hdb
  rwa [tCall_nil] at z
theorem pe_met {pl : Sem Bool} (c : Cls X.K C) (F : MetN X.prog X.w X.K X.mg X.base CX k C m ps sp) (hr : Room k X.A) (hx : Passes CX X E) (he : PE X o ta) (ha : PA X (e :: es) t)
    (hst : starEach (e :: es) X.env = (false, eval e X.env) :: starEach es X.env := by rfl) (hpl : (backTo pos (starEach es X.env)).any (·.1) = false := by rfl)
    (ht : eval (.Call (.Attribute o m apos) (e :: es) [] pos) X.env = (do
      let ov ← eval o X.env
      standAt apos.atName
      let (f, first) ← holding [ov] (getMethod ov m pl)
      callWith pos f first (backTo pos (starEach (e :: es) X.env)) (backToKw pos (keywordEach [] X.env))) := by rfl) : PE X (.Call (.Attribute o m apos) (e :: es) [] pos) (tMet C m sp E ta t) := by
  obtain ⟨f, fd, a, b, _, kp, d, g⟩ := F.ex
  have z := pe_meth (pl := pl) (dvs := []) he c ⟨a, b, kp⟩ d hr g .nil hx ha hst hpl ht
  rwa [tMeth_nil] at z
theorem pe_met0 {pl : Sem Bool} (c : Cls X.K C) (F : MetN X.prog X.w X.K X.mg X.base CX k C m ps sp) (hr : Room k X.A) (hx : Passes CX X E) (he : PE X o ta)
    (ht : eval (.Call (.Attribute o m apos) [] [] pos) X.env = (do
      let ov ← eval o X.env
      standAt apos.atName
      let (f, first) ← holding [ov] (getMethod ov m pl)
      callWith pos f first (backTo pos (starEach [] X.env)) (backToKw pos (keywordEach [] X.env))) := by rfl) : PE X (.Call (.Attribute o m apos) [] [] pos) (tMet C m sp E ta tNil) := by
  obtain ⟨f, fd, a, b, _, kp, d, g⟩ := F.ex
  have z := pe_meth0 (pl := pl) (dvs := []) he c ⟨a, b, kp⟩ d hr g .nil hx ht
  rwa [tMeth_nil] at z
theorem pe_prp (c : Cls X.K C) (F : PropN X.prog X.w X.K X.mg X.base CX k C m sp) (hr : Room (k + 1) X.A) (hx : Passes CX X.nox E) (he : PE X e ta) (hab : attributeBase e m X.env (eval e X.env) = eval e X.env := by rfl) : PE X (.Attribute e m pos) (tPrp C sp E ta) := by
  obtain ⟨p, g, fd, hp, d, b⟩ := F.ex
  have z := pe_prop (pos := pos) (dvs := []) he c hp d hr b .nil hx hab
  exact z
theorem pe_ins (F : MetN X.prog X.w X.K X.mg X.base CX k C "__call__" ps sp) (hr : Room k X.A) (hx : Passes CX X E) (hf : PE X o tf) (ha : PA X (e :: es) t)
    (ht : eval (.Call o (e :: es) [] pos) X.env = (do callWith pos (← eval o X.env) [] (backTo pos (starEach (e :: es) X.env)) (backToKw pos (keywordEach [] X.env))) := by rfl)
    (he : starEach (e :: es) X.env = (false, eval e X.env) :: starEach es X.env := by rfl) (hpl : (backTo pos (starEach es X.env)).any (·.1) = false := by rfl) : PE X (.Call o (e :: es) [] pos) (StX.tCallO X C sp E tf t) := by
  obtain ⟨f, a, b, c, d⟩ := F.raw
  exact StX.pe_callO hf ⟨a, b, c⟩ d hr hx ha ht he hpl
theorem pe_cm {pl : Sem Bool} (F : CmN X.prog X.w X.K X.mg X.base CX k C m sp) (hr : Room k X.A) (hx : Passes CX X E) (he : PE X o ta) (ha : PA X (e :: es) t)
    (hst : starEach (e :: es) X.env = (false, eval e X.env) :: starEach es X.env := by rfl) (hpl : (backTo pos (starEach es X.env)).any (·.1) = false := by rfl)
    (ht : eval (.Call (.Attribute o m apos) (e :: es) [] pos) X.env = (do
      let ov ← eval o X.env
      standAt apos.atName
      let (f, first) ← holding [ov] (getMethod ov m pl)
      callWith pos f first (backTo pos (starEach (e :: es) X.env)) (backToKw pos (keywordEach [] X.env))) := by rfl) : PE X (.Call (.Attribute o m apos) (e :: es) [] pos) (ClX.tCMeth C sp E ta t) := by
  obtain ⟨mc, p, g, r, c, F⟩ := F.ex
  exact ClX.pe_cmeth (pl := pl) he r c F hr hx ha hst hpl ht
end
theorem noNI {v : V} : ¬ RelV v Value.notImplemented := by
  cases v <;> intro h <;> first | (obtain ⟨_, h⟩ := h; cases h) | cases h
section
variable {X : Cx} {CX : CXT} {k : Nat} {C : Addr} {m x : Str} {ps : List Str} {sp : Sp} {E : XK}
theorem ep_back {pins : List (Addr × Obj)} {σ : L2.St} {Q : VK} {v : Value} {s : Shared} (h : EP X pins σ Q v s) : PySem.W.CmpBack (EP X pins σ Q) v s := by
  cases v with
  | notImplemented =>
    obtain ⟨_, _, _, r, _⟩ := h
    exact noNI r
  | _ => exact h
def rOwn (C : Addr) (sp : Sp) (E : XK) : R2 := fun x y H Q => ∃ a dx fs b dy gs, x = .ref a ∧ y = .ref b ∧ H a = some (.ins C dx fs) ∧ H b = some (.ins C dy gs) ∧ sp [x, y] H Q E
theorem op_own {op : Operator} (o : OwnC X.K C) (F : MetN X.prog X.w X.K X.mg X.base CX k C (PySem.dunder op.info.2) ps sp) (hr : Room k X.A) (hx : Passes CX X E) : OpR X (binaryOp op) (rOwn C sp E) := by
  intro pins s σ H x y v u Q I rx ry h
  obtain ⟨a, dx, fs, b, dy, gs, rfl, rfl, ha, hb, h⟩ := h
  cases rx
  cases ry
  obtain ⟨f, e1, e2, e3, G⟩ := F.raw
  obtain ⟨mA, O, _⟩ := ins_get I.hok ha
  obtain ⟨od, J, _⟩ := O.look
  obtain ⟨mB, O2, _⟩ := ins_get I.hok hb
  obtain ⟨od2, J2, _⟩ := O2.look
  obtain ⟨mf, Fr⟩ := I.fr
  refine PySem.W.binop_K Fr I.ok.mod.kin J J2.type o.sf e1 e2 (wpAny_call ?_)
  refine codeAny_mono (run_fnR (us := [.ref a, .ref b]) (vs := [.ref a, .ref b]) G hr hx I (.cons rfl (.cons rfl .nil)) h) fun r s' hq => ?_
  cases r with
  | error e => exact hq
  | ok fl =>
    cases fl with
    | ret u => exact ep_back hq
    | next => exact hq
    | brk => exact hq
    | cont => exact hq
structure OpT (K : PySem.W.Frag) (C : Addr) (nm : String) (T : String) : Prop where
  ex : ∃ fo ro rc, PySem.W.findIn K (.ref C) (dunderR nm) = some rc ∧ rc = none ∧ PySem.W.findIn K (.type T) (PySem.dunder nm) = some fo ∧ PySem.W.findIn K (.type T) (dunderR nm) = some ro ∧ PySem.W.subIn K (.type T) (.ref C) = some false
def rOwnI (C : Addr) (sp : Sp) (E : XK) : R2 := fun x y H Q => ∃ a dx fs i, x = .ref a ∧ y = .int i ∧ H a = some (.ins C dx fs) ∧ sp [x, y] H Q E
theorem op_ownI {op : Operator} (o : OwnC X.K C) (t : OpT X.K C op.info.2 "int") (F : MetN X.prog X.w X.K X.mg X.base CX k C (PySem.dunder op.info.2) ps sp) (hr : Room k X.A) (hx : Passes CX X E) : OpR X (binaryOp op) (rOwnI C sp E) := by
  intro pins s σ H x y v u Q I rx ry h
  obtain ⟨a, dx, fs, i, rfl, rfl, ha, h⟩ := h
  cases rx
  have ry0 := ry
  obtain ⟨t0, rfl⟩ := ry
  obtain ⟨f, e1, e2, e3, G⟩ := F.raw
  obtain ⟨mA, O, _⟩ := ins_get I.hok ha
  obtain ⟨od, J, _⟩ := O.look
  obtain ⟨mf, Fr⟩ := I.fr
  obtain ⟨fo, ro, rc, h1, h2, h3, h4, h5⟩ := t.ex
  refine PySem.W.ksp_binT Fr I.ok.mod.kin J rfl o.sf e1 e2 h1 (.inl h2) h3 h4 h5 (wpAny_call ?_)
  refine codeAny_mono (run_fnR (vs := [.ref a, .int i]) G hr hx I (.cons rfl (.cons ry0 .nil)) h) fun r s' hq => ?_
  cases r with
  | error e => exact hq
  | ok fl =>
    cases fl with
    | ret u => exact ep_back hq
    | next => exact hq
    | brk => exact hq
    | cont => exact hq
theorem notFirst_self {K : PySem.W.Frag} {C : Addr} : PySem.W.notFirst K C (.ref C) = true := by
  unfold PySem.W.notFirst
  rw [beq_self_eq_true, Bool.true_or]
theorem op_eqOwn (hu : X.A.units + 2 < cLine) (F : MetN X.prog X.w X.K X.mg X.base CX k C "__eq__" ps sp) (hr : Room k X.A) (hx : Passes CX X E) : OpR X (compareOp .Eq) (rOwn C sp E) := by
  intro pins s σ H x y v u Q I rx ry h
  obtain ⟨a, dx, fs, b, dy, gs, rfl, rfl, ha, hb, h⟩ := h
  cases rx
  cases ry
  obtain ⟨f, e1, e2, e3, G⟩ := F.raw
  obtain ⟨mA, O, _⟩ := ins_get I.hok ha
  obtain ⟨od, J, _⟩ := O.look
  obtain ⟨mB, O2, _⟩ := ins_get I.hok hb
  obtain ⟨od2, J2, _⟩ := O2.look
  obtain ⟨mf, Fr⟩ := I.fr
  refine PySem.W.cmp_K (op := .Eq) (Nat.lt_of_le_of_lt (Nat.le_add_right _ 2) hu) Fr I.ok.mod.kin J J2.type notFirst_self e1 e2 (wpAny_call ?_)
  refine codeAny_mono (run_fnR (us := [.ref a, .ref b]) (vs := [.ref a, .ref b]) G hr hx I (.cons rfl (.cons rfl .nil)) h) fun r s' hq => ?_
  cases r with
  | error e => exact hq
  | ok fl =>
    cases fl with
    | ret u => exact ep_back hq
    | next => exact hq
    | brk => exact hq
    | cont => exact hq
end
end TkL

namespace TkL
open PySem PySem.Spec PySem.Calls PyProof.Rows L2
section
variable {prog : Program} {w : World} {A : Around} {E : Value → Shared → Prop} {s : Shared} {K : PySem.W.Frag} {x C f : Addr} {b tb : Value} {ox : Obj} {od : Option Obj}
theorem ne_obj (X : K.In s.heap) (I : PySem.W.InstAt s.heap x ox C od) (hs : PySem.W.findIn K (.ref C) "__eq__" = some (some (.ref f))) (hf : PySem.W.isFn K (.ref f) = true) (hu : A.units < cLine) {Q : Fin → Shared → Prop}
    (h : wpAny (model prog w) A (call (.ref f) [.ref x, b]) (fun v s' => ∃ c, v = .bool c ∧ Q (.done (.ret (.bool (!c)))) s') E s) : wpAny (model prog w) A (Builtin.«object.__ne__» ⟨[.ref x, b], []⟩) Q E s := by
  obtain ⟨hh, g, d, t, os⟩ := s
  unfold Builtin.«object.__ne__»
  repeat (first
    | with_reducible refine wpAny_cRoomFor hu ?_
    | (refine wpAny_bind (m := callSpecialIfBound? (.ref x) (Str.ofString "__eq__") [b])
        (PySem.W.ifBound_K X I hs hf (wpAny_mono h (fun r s' hr => by
          obtain ⟨c, rfl, hq⟩ := hr
          repeat (first | exact hq | exact wpAny_pure hq | exact wpAny_truthy_bool hq | (refine wpAny_bind (m := truthy (.bool _)) (wpAny_truthy_bool ?_)) | wp_step)) fun _ _ e => e)))
    | wp_step)
theorem ne_special (X : K.In s.heap) (I : PySem.W.InstAt s.heap x ox C od) (hn : PySem.W.findIn K (.ref C) "__ne__" = some (some (.builtin "object.__ne__"))) (ho : PySem.W.subIn K (.ref C) (.type "object") = some true)
    (hs : PySem.W.findIn K (.ref C) "__eq__" = some (some (.ref f))) (hf : PySem.W.isFn K (.ref f) = true) (hu : A.units + 1 < cLine) {Q : Option Value → Shared → Prop}
    (h : wpAny (model prog w) A.in1 (call (.ref f) [.ref x, b]) (fun v s' => ∃ c, v = .bool c ∧ Q (some (.bool (!c))) s') E s) : wpAny (model prog w) A (tryCompare (.ref x) "__ne__" b) Q E s := by
  have sl : Slot "object" "__ne__" "object.__ne__" := Slot.of (owner := "object") (n := "__ne__") (by rw [typeLookup_type, builtinLookup_eq_fast]; kernel_rfl) (by decide +kernel) (by decide +kernel) (by decide +kernel) (.inl (by decide +kernel)) (by rw [isSubtype_type]; kernel_rfl)
  have inst : PySem.W.Looks (model prog w) s.heap (isInstance (.ref x) (.type "object")) true := by
    unfold isInstance
    exact I.type.andThen (PySem.W.looks_subIn X ho)
  have key : wpAny (model prog w) A (call (.builtin "object.__ne__") [.ref x, b]) (fun v s' => ∃ c, v = .bool (!c) ∧ Q (some (.bool (!c))) s') E s :=
    wpAny_call (codeAny_call_builtin sl.plain F.cmpEntry_ne (PySem.W.check_slot F.cmpKind_ne F.cmpSplit_ne inst (F.cmpArgs_ne _ _)
      (ne_obj (A := A.in1) X I hs hf hu (wpAny_mono h (fun v s' hv => by obtain ⟨c, e, q⟩ := hv; exact ⟨c, e, c, rfl, q⟩) fun _ _ e => e))))
  unfold tryCompare
  refine wpAny_bind ?_
  simp only [callSpecialIfBound?, bindSpecialIfBound?]
  refine wpAny_holding (wpAny_bind (wpAny_bind (wpAny_bind (I.type.here ((PySem.W.looks_findIn X hn).here ?_)))))
  refine wpAny_bind (wpAny_askSetting (wpAny_ite ?_))
  have fin : wpAny (model prog w) A (call (.builtin "object.__ne__") ([.ref x] ++ [b]) >>= fun v => pure (some v)) (fun r s' => wpAny (model prog w) A (match r with | some .notImplemented | none => pure none | some v => pure (some v)) Q E s') E s :=
    wpAny_bind (wpAny_mono key (fun v s' h' => by obtain ⟨c, rfl, q⟩ := h'; exact wpAny_pure (wpAny_pure q)) fun _ _ h' => h')
  split
  · rw [sl.bind]
    exact wpAny_bind (wpAny_pure (wpAny_pure fin))
  · rw [sl.bind]
    exact wpAny_tryCatch (wpAny_bind (wpAny_pure (wpAny_pure fin)))
theorem ne_K {Q : Value → Shared → Prop} (X : K.In s.heap) (I : PySem.W.InstAt s.heap x ox C od) (hb : PySem.W.Looks (model prog w) s.heap (typeOf b) tb) (hnf : PySem.W.notFirst K C tb = true)
    (hn : PySem.W.findIn K (.ref C) "__ne__" = some (some (.builtin "object.__ne__"))) (ho : PySem.W.subIn K (.ref C) (.type "object") = some true)
    (hs : PySem.W.findIn K (.ref C) "__eq__" = some (some (.ref f))) (hf : PySem.W.isFn K (.ref f) = true) (hu : A.units + 1 < cLine)
    (h : wpAny (model prog w) A.in1 (call (.ref f) [.ref x, b]) (fun v s' => ∃ c, v = .bool c ∧ Q (.bool (!c)) s') E s) : wpAny (model prog w) A (compareOp .NotEq (.ref x) b) Q E s := by
  have one : wpAny (model prog w) A (tryCompare (.ref x) "__ne__" b) (fun r s' => ∃ v, r = some v ∧ Q v s') E s :=
    ne_special X I hn ho hs hf hu (wpAny_mono h (fun v s' hv => by obtain ⟨c, e, q⟩ := hv; exact ⟨c, e, _, rfl, q⟩) fun _ _ e => e)
  show wpAny (model prog w) A (richCompare .NotEq (.ref x) b) Q E s
  unfold richCompare
  simp only [oneThing_ref]
  refine wpAny_holding (wpAny_bind (wpAny_cRoomFor (Nat.lt_of_succ_lt hu) ?_))
  rw [cmpInfo_NotEq]
  dsimp only
  refine wpAny_bind (I.type.here (wpAny_bind (hb.here ?_)))
  split
  · rename_i q
    have e : PySem.W.subIn K tb (.ref C) = some false := by
      rcases Bool.or_eq_true_iff.mp hnf with e | e
      · rw [beq_iff_eq.mp e] at q; simp at q
      · exact beq_iff_eq.mp e
    refine wpAny_bind ((PySem.W.looks_subIn X e).here ?_)
    simp only [Bool.false_eq_true, if_false]
    refine wpAny_bind (wpAny_mono one (fun r s' z => ?_) fun _ _ e => e)
    obtain ⟨v, rfl, hq⟩ := z
    exact wpAny_pure hq
  · refine wpAny_bind (wpAny_pure ?_)
    simp only [Bool.false_eq_true, if_false]
    refine wpAny_bind (wpAny_mono one (fun r s' z => ?_) fun _ _ e => e)
    obtain ⟨v, rfl, hq⟩ := z
    exact wpAny_pure hq
end
structure NeC (K : PySem.W.Frag) (C : Addr) : Prop where
  ne : PySem.W.findIn K (.ref C) "__ne__" = some (some (.builtin "object.__ne__"))
  ob : PySem.W.subIn K (.ref C) (.type "object") = some true
section
variable {X : Cx} {CX : CXT} {k : Nat} {C : Addr} {m x : Str} {ps : List Str} {sp : Sp} {E : XK} {o e e2 : Expr} {es : List Expr} {ta te tb tf : TE} {t : TA} {p apos pos : Pos}
theorem run_in1 {pins : List (Addr × Obj)} {σ : L2.St} {H : Hp} {s : Shared} {Q : VK} {f : Addr} {us : List Value} {vs : List V} (G : FnR X.prog X.w X.K X.mg X.base CX k f sp) (hr : Room (k + 1) X.A) (hx : Passes CX X E) (I : Inv X pins σ H s) (r : Vals vs us) (h : sp vs H Q E) :
    wpAny (model X.prog X.w) X.A.in1 (call (.ref f) us) (EP X pins σ Q) X.xe s := by
  refine wpAny_call (codeAny_mono (G X.A.in1 X.stack s H us vs Q E hr.in1 I.env0.in1 r h) fun r s' hq => ?_)
  cases r with
  | error e => exact hx pins σ H s e s' I hq
  | ok fl =>
    cases fl with
    | ret u => exact I.after hq
    | next => exact False.elim hq
    | brk => exact False.elim hq
    | cont => exact False.elim hq
def rOwnNe (C : Addr) (sp : Sp) (E : XK) : R2 := fun x y H Q => ∃ a dx fs b dy gs, x = .ref a ∧ y = .ref b ∧ H a = some (.ins C dx fs) ∧ H b = some (.ins C dy gs) ∧ sp [x, y] H (fun v H' => ∃ c, v = .bl c ∧ Q (.bl (!c)) H') E
theorem op_neOwn (N : NeC X.K C) (F : MetN X.prog X.w X.K X.mg X.base CX k C "__eq__" ps sp) (hr : Room (k + 1) X.A) (hx : Passes CX X E) : OpR X (compareOp .NotEq) (rOwnNe C sp E) := by
  intro pins s σ H x y v u Q I rx ry h
  obtain ⟨a, dx, fs, b, dy, gs, rfl, rfl, ha, hb, h⟩ := h
  cases rx
  cases ry
  obtain ⟨f, e1, e2, e3, G⟩ := F.raw
  obtain ⟨mA, O, _⟩ := ins_get I.hok ha
  obtain ⟨od, J, _⟩ := O.look
  obtain ⟨mB, O2, _⟩ := ins_get I.hok hb
  obtain ⟨od2, J2, _⟩ := O2.look
  refine ne_K I.kIn J J2.type notFirst_self N.ne N.ob e1 e2 (hu_of hr) ?_
  refine wpAny_mono (run_in1 (us := [.ref a, .ref b]) (vs := [.ref a, .ref b]) G hr hx I (.cons rfl (.cons rfl .nil)) h) (fun v s' hv => ?_) fun _ _ z => z
  obtain ⟨v', H', I', rv, c, ev, q⟩ := hv
  subst ev
  cases rv
  exact ⟨c, rfl, V.bl (!c), H', I', rfl, q⟩
def rOwnIn (C : Addr) (neg : Bool) (sp : Sp) (E : XK) : R2 := fun y x H Q => ∃ a dx fs, x = .ref a ∧ H a = some (.ins C dx fs) ∧ sp [x, y] H (fun v H' => ∃ c, v = .bl c ∧ Q (.bl (if neg then !c else c)) H') E
theorem op_inOwn (F : MetN X.prog X.w X.K X.mg X.base CX k C "__contains__" ps sp) (hr : Room k X.A) (hx : Passes CX X E) : OpR X (compareOp .In) (rOwnIn C false sp E) := by
  intro pins s σ H y x u v Q I ry rx h
  obtain ⟨a, dx, fs, rfl, ha, h⟩ := h
  cases rx
  obtain ⟨f, e1, e2, e3, G⟩ := F.raw
  obtain ⟨mA, O, _⟩ := ins_get I.hok ha
  obtain ⟨od, J, _⟩ := O.look
  obtain ⟨mf, Fr⟩ := I.fr
  refine PySem.W.in_K Fr I.ok.mod.kin J e1 e2 (wpAny_call ?_)
  refine codeAny_mono (run_fnR (us := [.ref a, u]) (vs := [.ref a, y]) G hr hx I (.cons rfl (.cons ry .nil)) h) fun r s' hq => ?_
  cases r with
  | error e => exact hq
  | ok fl =>
    cases fl with
    | ret z =>
      obtain ⟨v', H', I', rv, c, ev, q⟩ := hq
      subst ev
      cases rv
      exact wpAny_truthy_bool ⟨.bl c, H', I', rfl, q⟩
    | next => exact hq
    | brk => exact hq
    | cont => exact hq
theorem op_notInOwn (F : MetN X.prog X.w X.K X.mg X.base CX k C "__contains__" ps sp) (hr : Room k X.A) (hx : Passes CX X E) : OpR X (compareOp .NotIn) (rOwnIn C true sp E) := by
  intro pins s σ H y x u v Q I ry rx h
  obtain ⟨a, dx, fs, rfl, ha, h⟩ := h
  cases rx
  obtain ⟨f, e1, e2, e3, G⟩ := F.raw
  obtain ⟨mA, O, _⟩ := ins_get I.hok ha
  obtain ⟨od, J, _⟩ := O.look
  obtain ⟨mf, Fr⟩ := I.fr
  refine PySem.W.notIn_K Fr I.ok.mod.kin J e1 e2 (wpAny_call ?_)
  refine codeAny_mono (run_fnR (us := [.ref a, u]) (vs := [.ref a, y]) G hr hx I (.cons rfl (.cons ry .nil)) h) fun r s' hq => ?_
  cases r with
  | error e => exact hq
  | ok fl =>
    cases fl with
    | ret z =>
      obtain ⟨v', H', I', rv, c, ev, q⟩ := hq
      subst ev
      cases rv
      exact wpAny_truthy_bool ⟨.bl (!c), H', I', rfl, q⟩
    | next => exact hq
    | brk => exact hq
    | cont => exact hq
def rOwnIx (C : Addr) (sp : Sp) (E : XK) : R2 := fun x y H Q => ∃ a dx fs, x = .ref a ∧ H a = some (.ins C dx fs) ∧ sp [x, y] H Q E
theorem pe_ixOwn (F : MetN X.prog X.w X.K X.mg X.base CX k C "__getitem__" ps sp) (hr : Room (k + 1) X.A) (hx : Passes CX X E) (ha : PE X e ta) (hb : PE X e2 tb)
    (hsl : ∀ x i, subscripted e2 true (.ref x) i = runValue (.builtin "lifetime.subscript" ⟨[.ref x, i], []⟩) := by intro _ _; rfl) : PE X (.Subscript e e2 pos) (tOp (rOwnIx C sp E) ta tb) := by
  refine ⟨fun pins s σ H Q I h => ?_⟩
  refine Subscript_ (binT ha hb I h fun v u s2 x y H2 I2 rx ry q => ?_)
  obtain ⟨a, dx, fs, rfl, ha, h⟩ := q
  cases rx
  obtain ⟨f, e1, e2, e3, G⟩ := F.raw
  obtain ⟨mA, O, _⟩ := ins_get I2.hok ha
  obtain ⟨od, J, _⟩ := O.look
  obtain ⟨mf, Fr⟩ := I2.fr
  exact PySem.W.sub_K Fr I2.ok.mod.kin J e1 e3 e2 (run_in1 (us := [.ref a, u]) (vs := [.ref a, y]) G hr hx I2 (.cons rfl (.cons ry .nil)) h) (hsl _ _)
def rOwnTru (C : Addr) (sp : Sp) (E : XK) : V → Hp → (Bool → Hp → Prop) → Prop := fun x H Q => ∃ a dx fs, x = .ref a ∧ H a = some (.ins C dx fs) ∧ sp [x] H (fun v H' => ∃ c, v = .bl c ∧ Q c H') E
theorem tru_own (F : MetN X.prog X.w X.K X.mg X.base CX k C "__bool__" ps sp) (hr : Room k X.A) (hx : Passes CX X E) {pins : List (Addr × Obj)} {s : Shared} {σ : L2.St} {H : Hp} {x : V} {v : Value} {Q : Bool → Hp → Prop} (I : Inv X pins σ H s) (rx : RelV x v) (h : rOwnTru C sp E x H Q) :
    wpAny (model X.prog X.w) X.A (truthy v) (TP X pins σ Q) X.xe s := by
  obtain ⟨a, dx, fs, rfl, ha, h⟩ := h
  cases rx
  obtain ⟨f, e1, e2, e3, G⟩ := F.raw
  obtain ⟨mA, O, _⟩ := ins_get I.hok ha
  obtain ⟨od, J, _⟩ := O.look
  obtain ⟨mf, Fr⟩ := I.fr
  refine PySem.W.truthy_K Fr I.ok.mod.kin J e1 e2 (wpAny_call ?_)
  refine codeAny_mono (run_fnR (us := [.ref a]) (vs := [.ref a]) G hr hx I (.cons rfl .nil) h) fun r s' hq => ?_
  cases r with
  | error e => exact hq
  | ok fl =>
    cases fl with
    | ret z =>
      obtain ⟨v', H', I', rv, c, ev, q⟩ := hq
      subst ev
      cases rv
      exact ⟨H', I', q⟩
    | next => exact hq
    | brk => exact hq
    | cont => exact hq
def tTruO (C : Addr) (sp : Sp) (E : XK) (ta : TE) : TT := fun σ H Q => ta σ H fun x H1 => rOwnTru C sp E x H1 Q
theorem pt_own (F : MetN X.prog X.w X.K X.mg X.base CX k C "__bool__" ps sp) (hr : Room k X.A) (hx : Passes CX X E) (ha : PE X e ta) (he : ∀ whole, isTrue e X.env whole = (do let v ← whole; standAt e.pos; holding [v] (truthy v)) := by intro _; rfl) : PT X e (tTruO C sp E ta) := by
  refine ⟨fun pins s σ H Q I h => ?_⟩
  exact isTrue_plain (thn (ha.run pins s σ H _ I h) fun v s1 ⟨x, H1, I1, r1, q1⟩ => tru_own F hr hx I1 r1 q1) (he _)
end
structure MkN (P : Program) (w : World) (K : PySem.W.Frag) (mg : Str → Option Value) (base : Heap) (CX : CXT) (k : Nat) (C : Addr) (sp : Sp) : Prop where
  ex : ∃ f, Mk K C f ∧ FnR P w K mg base CX k f sp
def tMk (C : Addr) (sp : Sp) (E : XK) (t : TA) : TE := StX.tMakeR C sp E t
section
variable {X : Cx} {CX : CXT} {k i : Nat} {C : Addr} {m x : Str} {sp : Sp} {E : XK} {e : Expr} {es : List Expr} {t : TA} {p pos : Pos}
theorem pe_mkN (M : MkN X.prog X.w X.K X.mg X.base CX k C sp) (hr : Room (k + 1) X.A) (hm : X.mg x = some (.ref C)) (hx : Passes CX X E) (ha : PA X (e :: es) t) (hg : Gl X x := by rfl) (hdb : (x == ("__debug__" : Str)) = false := by decide)
    (he : starEach (e :: es) X.env = (false, eval e X.env) :: starEach es X.env := by rfl) (hpl : (backTo pos (starEach es X.env)).any (·.1) = false := by rfl) : PE X (.Call (.Name x p) (e :: es) [] pos) (tMk C sp E t) := by
  obtain ⟨f, M, F⟩ := M.ex
  exact StX.pe_makeR M F hr hg hm hx ha hdb he hpl
def tMkV (i : Nat) (C : Addr) (sp : Sp) (E : XK) (t : TA) : TE := fun σ H Q => σ[i]? = some (some (.ref C)) ∧ StX.tMakeR C sp E t σ H Q
theorem pe_mkV (M : MkN X.prog X.w X.K X.mg X.base CX k C sp) (hr : Room (k + 1) X.A) (hx : Passes CX X E) (ha : PA X (e :: es) t) (hN : X.N[i]? = some x := by rfl) (hv : Vis X.env.scope x := by first | exact Or.inl rfl | exact Or.inr (Or.inl rfl) | exact Or.inr (Or.inr rfl))
    (hd : (x == ("__debug__" : Str)) = false := by decide) (hcd : (x == ("__classdict__" : Str)) = false := by decide)
    (he : starEach (e :: es) X.env = (false, eval e X.env) :: starEach es X.env := by rfl) (hpl : (backTo pos (starEach es X.env)).any (·.1) = false := by rfl) : PE X (.Call (.Name x p) (e :: es) [] pos) (tMkV i C sp E t) := by
  obtain ⟨f, M, F⟩ := M.ex
  refine ⟨fun pins s σ H Q I h => ?_⟩
  obtain ⟨h0, h⟩ := h
  have hp := (pe_var (pos := p) hN hv hd hcd).run pins s σ H (fun v H' => v = .ref C ∧ H' = H) I ⟨_, h0, rfl, rfl⟩
  refine Call_ (thn hp fun u s1 ⟨y, H1, I1, ry, ey, eH⟩ => ?_) rfl
  subst ey eH
  cases ry
  refine PySem.W.callWith_K (h₀ := X.base) I.ok.mod.kin M.kp (thn (ha.run pos pins s1 σ _ _ I1 h) fun us s2 ⟨vs, H2, I2, r, q⟩ => ⟨I2.kIn, ?_⟩) he hpl
  exact StX.run_makeR M F hr hx I2 r q
end
end TkL

namespace TkL
open PySem PySem.Spec PySem.Calls PyProof.Rows L2
set_option maxHeartbeats 4000000 in
theorem meets_enum1 {v : Value} {o : Obj} {H : Heap → Prop} (B : Begins v o H) :
    Meets (Builtin.«enumerate.__new__» ⟨[.type "enumerate", v], []⟩) (fun _ R s => H s.heap ∧
      R (.ok (.ret (.ref (s.heap.push o).objs.size))) { s with heap := (s.heap.push o).push { cls := .type "enumerate", data := .fields #[.none, .bool false, .ref s.heap.objs.size, rawInt 0, .none, .none] } }) :=
  .of_wp fun prog w A R s h => by
    obtain ⟨hp, g, d, tk, os⟩ := s; obtain ⟨h1, h⟩ := h
    have hsub := sub_enumerate
    have q1 : ∀ {A' : Around} {E : Value → Shared → Prop} {Q : Value → Shared → Prop}, Q (.ref hp.objs.size) ⟨hp.push o, g, d, tk, os⟩ → wpAny (model prog w) A' (pyIter v) Q E ⟨hp, g, d, tk, os⟩ :=
      fun q => B.iter prog w _ _ ⟨hp, g, d, tk, os⟩ _ h1 q
    wp_walk using q1
    refine wpAny_stack_any fun st => wpAny_pure ?_
    split
    · rename_i c _ _ _ _ _
      cases (c == Value.type "enumerate")
      · wp_walk using q1
        exact ⟨_, rfl, h⟩
      · wp_walk using q1
        exact ⟨_, rfl, h⟩
    · wp_walk using q1
      exact ⟨_, rfl, h⟩
theorem enum_begins1 {prog : Program} {w : World} {A : Around} {E : Value → Shared → Prop} {s : Shared} {v : Value} {o : Obj} {H : Heap → Prop} {Q : Value → Shared → Prop} (B : Begins v o H) (h1 : H s.heap)
    (h : ∀ h', IsEnum h' (s.heap.objs.size + 1) s.heap.objs.size 0 .none → h'.get? s.heap.objs.size = some o → h'.objs.size = s.heap.objs.size + 2 →
      (∀ b o, s.heap.get? b = some o → h'.get? b = some o) → Q (.ref (s.heap.objs.size + 1)) { s with heap := h' }) :
    wpAny (model prog w) A (call (.type "enumerate") [v]) Q E s := by
  refine callType_new F.called_enumerate (by decide) (F.typeCall_enumerate_1 _) (F.newCall_enumerate_1 _) (fun obj => F.args_object_init_2 obj _) F.entry_enumerate_new (meets_enum1 B) ⟨h1, ?_⟩
  have hz : (s.heap.push o).objs.size = s.heap.objs.size + 1 := Heap.size_push ..
  show _ ∧ _
  rw [hz]
  have he : IsEnum ((s.heap.push o).push { cls := .type "enumerate", data := .fields #[.none, .bool false, .ref s.heap.objs.size, rawInt 0, .none, .none] }) (s.heap.objs.size + 1) s.heap.objs.size 0 .none := by
    have := Heap.get?_push_size (s.heap.push o) (o := { cls := .type "enumerate", data := .fields #[.none, .bool false, .ref s.heap.objs.size, rawInt 0, .none, .none] }) rfl
    rw [hz] at this; exact this
  refine ⟨⟨_, he, rfl⟩, h _ he (Heap.get?_push_of_some _ (Heap.get?_push_size _ B.free)) (by rw [Heap.size_push, hz]) fun b o x => Heap.get?_push_of_some _ (Heap.get?_push_of_some _ x)⟩
def IteT (K : PySem.W.Frag) (a : Addr) : It :=
  ⟨fun i H => ∃ (xs : List V) (x : V), SqT K H a xs ∧ xs[i]? = some x, fun i H v H' => ∃ T x, v = .ref T ∧ H T = none ∧ H' = upd H T (.tup [.int (i : Nat), x]) ∧ ∀ xs, SqT K H a xs → xs[i]? = some x, fun i H => ∃ xs : List V, SqT K H a xs ∧ xs.length ≤ i⟩
theorem turn_enumT {P : Program} {w : World} {K : PySem.W.Frag} {elts : List Expr} {kk : Nat} {tpos : Pos} (a e it : Addr) (hat : a ≠ it) (hae : a ≠ e) :
    Turn P w K (.Tuple elts kk tpos) (IteT K a) [e, it] e (fun i h => (∃ old, IsEnum h e it ((i : Nat) : Int) old) ∧ h.IsTupleIter it a i ∧ e ≠ it) where
  mem := by simp
  obj := fun i h st b hb => by
    obtain ⟨⟨old, he⟩, ⟨o, ho, hc, hd⟩, _⟩ := st
    have e' : b = e ∨ b = it := by simpa using hb
    rcases e' with z | z
    · rw [z]; exact ⟨_, he, fun v q => nomatch q⟩
    · rw [z]; exact ⟨o, ho, fun v q => by rw [hd] at q; cases q⟩
  keep := fun i h h' st k => let ⟨⟨old, he⟩, hi, hne⟩ := st; ⟨⟨old, k e (by simp) _ he⟩, hi.at fun o q => k it (by simp) o q, hne⟩
  item := by
    intro X hP hw hK hc i pins s σ H E I hf st hg
    subst hP hw hK
    obtain ⟨⟨old, he⟩, hit, hne⟩ := st
    obtain ⟨xs, x, hq, hx⟩ := hg
    obtain ⟨its, rv, p, hz⟩ := I.tuple hq
    obtain ⟨u, hu, ru⟩ := rv.get hx
    have hel : e < s.heap.objs.size := Heap.lt_size he
    have hil : it < s.heap.objs.size := by obtain ⟨_, q, _⟩ := hit; exact Heap.lt_size q
    have D := Draws.tuple (prog := X.prog) (w := X.w) (A := X.A.in1) (I.ok.hd hc) it a hat its.toArray
    have hlt : i < its.toArray.size := by
      have := (List.getElem?_eq_some_iff.mp hu).1
      simpa using this
    refine wpAny_pyNext_enum_itemD D he ⟨hit, p⟩ hlt hne (by simp only [List.mem_cons, List.not_mem_nil, or_false, not_or]; exact ⟨hne, fun z => hae z.symm⟩) fun x' h' tk hPx ho hit' hT hsz hk => ?_
    have ex' : x' = u := by
      have z : its.toArray[i]? = some u := by simpa using hu
      rw [z] at hPx
      exact (Option.some.inj hPx).symm
    subst ex'
    refine ⟨_, rfl, wpAny_letOwnedTupleGo_enum (s := { s with heap := h', toks := tk + 1 }) ho fun h'' he' sb => ?_⟩
    have hT2 : h''.get? s.heap.objs.size = some { cls := .type "tuple", data := .seq #[.int i tk, x'] } := (sb.2 _ (Nat.ne_of_gt hel)).trans hT
    have new : ObjOk X.prog X.w (upd H s.heap.objs.size (.tup [.int (i : Nat), x])) h'' s.heap.objs.size (.tup [.int (i : Nat), x]) :=
      ⟨by show 2 ≤ sizeLine; decide, [.int i tk, x'], .cons ⟨_, rfl⟩ (.cons ru .nil), ⟨_, hT2, rfl, _, rfl⟩⟩
    have I1 : Inv X pins σ (upd H s.heap.objs.size (.tup [.int (i : Nat), x])) { s with heap := h'', toks := tk + 1 } :=
      I.turnedNew (ch := [e, it]) (fun b ob hb q => (sb.2 b (fun z => hb (by simp [z]))).trans (hk b ob (fun z => hb (by simp [z])) (fun z => hb (by simp [z])) q)) hf (Nat.le_refl _) new
    refine ⟨.ref s.heap.objs.size, _, I1, rfl, ⟨_, x, rfl, I.hok.fresh (Nat.le_refl _), rfl, fun ys hy => by rw [I.tuple_inj hy hq]; exact hx⟩, ⟨⟨x', ?_⟩, hit'.1.at fun o q => (sb.2 it (Ne.symm hne)).trans q, hne⟩, fun b hb => ?_⟩
    · have e1 : ((i + 1 : Nat) : Int) = (i : Int) + 1 := by omega
      rw [e1]; exact he'
    · have hb' : b < s.heap.objs.size := by
        have e' : b = e ∨ b = it := by simpa using hb
        rcases e' with z | z
        · rw [z]; exact hel
        · rw [z]; exact hil
      rw [upd_ne (Nat.ne_of_lt hb')]
      exact (hf b hb).1
  done := by
    intro X hP hw hK hc i pins s σ H E I hf st hg
    subst hP hw hK
    obtain ⟨⟨old, he⟩, hit, hne⟩ := st
    obtain ⟨xs, hq, hx⟩ := hg
    obtain ⟨its, rv, p, hz⟩ := I.tuple hq
    obtain ⟨f0, f1, f2, f3, f4, f5⟩ := hf it (by simp)
    have hl := rv.length
    have hx' : its.toArray[i]? = none := by simp; omega
    have hT : s.TypeIs (.ref e) "enumerate" := ⟨_, he, rfl⟩
    have hh : X.A.in1.handled = none := I.ok.hd hc
    have key : ∀ {Q : Option Value → Shared → Prop}, (∀ h', Heap.ExtBut it s.heap h' → Q none { s with heap := h' }) → wpAny (model X.prog X.w) X.A (pyNext (.ref e)) Q E s := fun {Q} hQ => by
      unfold pyNext
      refine wpAny_bind (wpAny_attempt (wpAny_callSpecial?_slot (name := Str.ofString "__next__") hT PySem.F.slot_enumerate_next
        (wpAny_call_entry PySem.F.slot_enumerate_next hT PySem.F.entry_enumerate_next ?_ (PySem.F.args_enumerate_next_1 _))))
      show wpAny _ _ (field (.ref e) 2 >>= _) _ _ _
      refine wpAny_bind (wpAny_field he rfl (x := .ref it) rfl ?_)
      refine wpAny_bind (wpAny_nextOf_tuple_end hh hit p hx' fun h' x he' hx' => ?_)
      obtain ⟨o, ho, hc⟩ := hx'
      refine wpAny_bind (wpAny_isInstance (T := "StopIteration") (b := true) ⟨o, ho, hc⟩ isSubtype_stop ?_)
      exact wpAny_pure (hQ _ he')
    exact key fun h' eb => ⟨rfl, I.turned (t' := s.toks) (fun b o hb q => eb b o hb q) f0 f1 f3 f4 f5⟩
  self := fun A i s Q E st h => let ⟨⟨_, he⟩, _⟩ := st; wpAny_pyIter_enum he h
def iEnumA (K : PySem.W.Frag) (ta : TA) : TI := fun σ H R => ta σ H fun vs H1 => ∃ a xs, vs = [.ref a] ∧ ((SqL K H1 a xs ∧ R (Ite K a) H1) ∨ (SqT K H1 a xs ∧ R (IteT K a) H1))
theorem pi_enumA {X : Cx} {e : Expr} {ta : TA} {p pos tpos : Pos} {elts : List Expr} {kk : Nat} (hm : X.mg "enumerate" = none) (ha : PA X [e] ta) (hg : Gl X "enumerate" := by rfl) (hs : starEach [e] X.env = [(false, eval e X.env)] := by rfl) :
    PI X (.Tuple elts kk tpos) (.Call (.Name "enumerate" p) [e] [] pos) (iEnumA X.K ta) := by
  refine ⟨fun pins s σ H R I h => ?_⟩
  refine Call_ (ld_blt I hg hm boot_enumerate (PyProof.Rows.callWith_type1 (thn (ha.run pos pins s σ H _ I h) fun us s1 ⟨vs, H1, I1, r1, q1⟩ => ?_) hs rfl))
  obtain ⟨a, xs, ex, q⟩ := q1
  subst ex
  cases r1 with
  | cons r rr =>
    cases rr
    cases r
    have fp : ∀ (h' : Heap) (I2 : Inv X pins σ H1 { s1 with heap := h' }), ∀ b ∈ [s1.heap.objs.size + 1, s1.heap.objs.size], FpOk X pins H1 b := fun h' I2 b hb => by
      have e' : b = s1.heap.objs.size + 1 ∨ b = s1.heap.objs.size := by simpa using hb
      have hle : s1.heap.objs.size ≤ b := by
        rcases e' with z | z
        · rw [z]; exact Nat.le_add_right _ _
        · rw [z]; exact Nat.le_refl _
      exact I1.fpOk hle (I1.hok.fresh hle)
    rcases q with ⟨hq, q⟩ | ⟨hq, q⟩
    · obtain ⟨its, rv, p', hz⟩ := I1.list hq
      refine call_enumerate_list p'.isList fun h' he hit hsz hk => wpAny_pyIter_enum he ?_
      have I2 : Inv X pins σ H1 { s1 with heap := h' } := I1.kept (t' := s1.toks) hk
      exact ⟨s1.heap.objs.size + 1, [s1.heap.objs.size + 1, s1.heap.objs.size], _, _, H1, rfl, I2, turn_enum a (s1.heap.objs.size + 1) s1.heap.objs.size, ⟨⟨.none, he⟩, hit, Nat.succ_ne_self _⟩, fp h' I2, q⟩
    · obtain ⟨its, rv, p', hz⟩ := I1.tuple hq
      have hlt : a < s1.heap.objs.size := p'.lt
      refine enum_begins1 (begins_tuple a its.toArray) (show s1.heap.IsTuple a its.toArray from p') fun h' he hit hsz hk => wpAny_pyIter_enum he ?_
      have I2 : Inv X pins σ H1 { s1 with heap := h' } := I1.kept (t' := s1.toks) hk
      exact ⟨s1.heap.objs.size + 1, [s1.heap.objs.size + 1, s1.heap.objs.size], _, _, H1, rfl, I2, turn_enumT a (s1.heap.objs.size + 1) s1.heap.objs.size (Nat.ne_of_lt hlt) (Nat.ne_of_lt (Nat.lt_succ_of_lt hlt)), ⟨⟨.none, he⟩, ⟨_, hit, rfl, rfl⟩, Nat.succ_ne_self _⟩, fp h' I2, q⟩
end TkL

namespace TkL
open PySem PySem.Spec PySem.Calls PyProof.Rows L2

def Ex (H H' : Hp) : Prop := ∀ a o, H a = some o → H' a = some o
theorem Ex.refl (H : Hp) : Ex H H := fun _ _ h => h
theorem Ex.trans {H H1 H2 : Hp} (a : Ex H H1) (b : Ex H1 H2) : Ex H H2 := fun x o h => b x o (a x o h)
theorem Ex.new {H : Hp} {p : Addr} {o : HO} (h : H p = none) : Ex H (upd H p o) := fun a u e => by
  rw [upd_ne (ne_of_none e h)]
  exact e
theorem Ex.mut {H H' : Hp} {p : Addr} {o : HO} (e : Ex H H') (h : H p = none) : Ex H (upd H' p o) := fun a u ha => by
  rw [upd_ne (ne_of_none ha h)]
  exact e a u ha
theorem Ex.back {H H' : Hp} {p : Addr} (e : Ex H H') (h : H' p = none) : H p = none := by
  cases h1 : H p with
  | none => rfl
  | some o =>
    rw [e p o h1] at h
    cases h
theorem Ex.sqL {K : PySem.W.Frag} {H H' : Hp} {a : Addr} {xs : List V} (e : Ex H H') (h : SqL K H a xs) : SqL K H' a xs := by
  rcases h with (h | ⟨o, h⟩) | h
  · exact .inl (.inl (e _ _ h))
  · exact .inl (.inr ⟨o, e _ _ h⟩)
  · exact .inr h
theorem Ex.sqT {K : PySem.W.Frag} {H H' : Hp} {a : Addr} {xs : List V} (e : Ex H H') (h : SqT K H a xs) : SqT K H' a xs := by
  rcases h with (h | ⟨o, h⟩) | h
  · exact .inl (.inl (e _ _ h))
  · exact .inl (.inr ⟨o, e _ _ h⟩)
  · exact .inr h
theorem lOf {K : PySem.W.Frag} {H : Hp} {a : Addr} {xs : List V} (h : H a = some (.lst xs)) : SqL K H a xs := .inl (.inl h)
theorem tOf {K : PySem.W.Frag} {H : Hp} {a : Addr} {xs : List V} (h : H a = some (.tup xs)) : SqT K H a xs := .inl (.inl h)
theorem sz_of {n : Nat} (h : n ≤ 1000000) : n ≤ sizeLine := Nat.le_trans h (by decide)
theorem sz_lt {n : Nat} (h : n < 1000000) : n < sizeLine := Nat.lt_of_lt_of_le h (by decide)

section
variable {σ : L2.St} {H : Hp} {Q : VK} {D : Ends} {t u : TS} {ta tb tc te : TE} {tt tu : TT} {A : TA} {v x y : V} {i : Nat} {K : PySem.W.Frag}
theorem x_seq (h : t { D with nx := u D } σ H) : tSeq t u D σ H := h
theorem x_next (h : D.nx σ H) : tNext D σ H := h
theorem x_break (h : D.bk σ H) : tBreak D σ H := h
theorem x_cont (h : D.ct σ H) : tCont D σ H := h
theorem x_drop (h : te σ H fun _ H1 => D.nx σ H1) : tDrop te D σ H := h
theorem x_ret (h : te σ H D.rt) : tRet te D σ H := h
theorem x_retN (h : D.rt .non H) : tRetN D σ H := h
theorem x_ifS (h : tt σ H fun b H1 => if b = true then t D σ H1 else u D σ H1) : tIfS tt t u D σ H := h
theorem x_asg {g : TG} (h : te σ H fun x H1 => g x σ H1 D.nx) : tAsg te g D σ H := h
theorem x_name {Q : L2.St → Hp → Prop} (h : Q (σ.set i (some v)) H) : gName i v σ H Q := h
theorem x_var (e : σ[i]? = some (some v)) (h : Q v H) : tVar i σ H Q := ⟨v, e, h⟩
theorem x_c (h : Q v H) : tC v σ H Q := h
theorem x_op {r : R2} (h : ta σ H fun x H1 => tb σ H1 fun y H2 => r x y H2 Q) : tOp r ta tb σ H Q := h
theorem x_un {r : V → Hp → VK → Prop} (h : ta σ H fun x H1 => r x H1 Q) : tUn r ta σ H Q := h
theorem x_rI0 {g : Int → Int → V} {a b : Int} (h : Q (g a b) H) : rI0 g (.int a) (.int b) H Q := ⟨a, b, rfl, rfl, h⟩
theorem x_rI {C : Int → Int → Prop} {g : Int → Int → V} {a b : Int} (c : C a b) (h : Q (g a b) H) : rI C g (.int a) (.int b) H Q := ⟨a, b, rfl, rfl, c, h⟩
theorem x_rU {g : Int → V} {a : Int} (h : Q (g a) H) : rU g (.int a) H Q := ⟨a, rfl, h⟩
theorem x_rEq (s : scal x y = true) (h : Q (.bl (decide (x = y))) H) : rEq x y H Q := ⟨s, h⟩
theorem x_rNe (s : scal x y = true) (h : Q (.bl (!decide (x = y))) H) : rNe x y H Q := ⟨s, h⟩
theorem x_nil {Q : List V → Hp → Prop} (h : Q [] H) : tNil σ H Q := h
theorem x_cons {Q : List V → Hp → Prop} (h : te σ H fun x H1 => A σ H1 fun xs H2 => Q (x :: xs) H2) : tCons te A σ H Q := h
theorem x_tup (h : A σ H fun xs H1 => xs.length ≤ sizeLine ∧ ∀ p, H1 p = none → Q (.ref p) (upd H1 p (.tup xs))) : tTup A σ H Q := h
theorem x_lst (h : A σ H fun xs H1 => xs.length ≤ sizeLine ∧ ∀ p, H1 p = none → Q (.ref p) (upd H1 p (.lst xs))) : tLst A σ H Q := h
theorem x_new {o : HO} (h : ∀ p H', Ex H H' → H p = none → H' p = some o → Q (.ref p) H') : ∀ p, H p = none → Q (.ref p) (upd H p o) := fun p hp => h p _ (Ex.new hp) hp upd_same
theorem x_notV (h : ta σ H fun x H1 => ∃ c, x = .bl c ∧ Q (.bl (!c)) H1) : tNotV ta σ H Q := h
theorem x_andV (h : ta σ H fun x H1 => ∃ c, x = .bl c ∧ if c = true then tb σ H1 Q else Q (.bl false) H1) : tAndV ta tb σ H Q := h
theorem x_orV (h : ta σ H fun x H1 => ∃ c, x = .bl c ∧ if c = true then Q (.bl true) H1 else tb σ H1 Q) : tOrV ta tb σ H Q := h
theorem x_exB {P : Bool → Prop} {c : Bool} (h : P c) : ∃ k, V.bl c = .bl k ∧ P k := ⟨c, rfl, h⟩
theorem x_if (h : tt σ H fun c H1 => if c = true then ta σ H1 Q else tb σ H1 Q) : tIf tt ta tb σ H Q := h
theorem x_B {Q : Bool → Hp → Prop} (h : te σ H fun x H1 => ∃ c, x = .bl c ∧ Q c H1) : tB te σ H Q := h
theorem x_test {Q : Bool → Hp → Prop} (h : te σ H fun x H1 => ∃ c, x = .bl c ∧ Q c H1) : tTest te σ H Q := h
theorem x_and {Q : Bool → Hp → Prop} (h : tt σ H fun c H1 => if c = true then tu σ H1 Q else Q false H1) : tAnd tt tu σ H Q := h
theorem x_or {Q : Bool → Hp → Prop} (h : tt σ H fun c H1 => if c = true then Q true H1 else tu σ H1 Q) : tOr tt tu σ H Q := h
theorem x_not {Q : Bool → Hp → Prop} (h : tt σ H fun c H1 => Q (!c) H1) : tNot tt σ H Q := h
theorem x_chain {r r' : R2} (h : ta σ H fun x H1 => tb σ H1 fun y H2 => r x y H2 fun z H3 => ∃ k, z = .bl k ∧ (if k = true then tc σ H3 fun w' H4 => r' y w' H4 Q else Q (.bl false) H3)) : tChain r r' ta tb tc σ H Q := h
theorem x_cb {r : List V → Hp → VK → Prop} (h : A σ H fun vs H1 => r vs H1 Q) : tCB r A σ H Q := h
theorem x_def {sp : Sp} {E : XK} (h : A σ H fun vs H1 => sp vs H1 Q E) : tDef sp E A σ H Q := h
theorem x_met {C : Addr} {m : Str} {sp : Sp} {E : XK} (h : ta σ H fun x H1 => ∃ a dx fs, x = .ref a ∧ H1 a = some (.ins C dx fs) ∧ fs.lookup m = none ∧ A σ H1 fun vs H2 => sp (x :: vs) H2 Q E) : tMet C m sp E ta A σ H Q := h
theorem x_prp {C : Addr} {sp : Sp} {E : XK} (h : ta σ H fun x H1 => ∃ a dx fs, x = .ref a ∧ H1 a = some (.ins C dx fs) ∧ sp [.ref a] H1 Q E) : tPrp C sp E ta σ H Q := h
theorem x_fld {f : Str} (h : ta σ H fun x H1 => ∃ a C dx fs v, x = .ref a ∧ H1 a = some (.ins C dx fs) ∧ Cls K C ∧ NoAttr K C f ∧ fs.lookup f = some v ∧ Q v H1) : tFld K ta f σ H Q := h
theorem x_sfld {f : Str} {tv : TE} (h : tv σ H fun y H1 => ta σ H1 fun x H2 => ∃ a C dx fs, x = .ref a ∧ H2 a = some (.ins C dx fs) ∧ Cls K C ∧ NoAttr K C f ∧ fs.length < 1000 ∧ D.nx σ (upd H2 a (.ins C dx (putF f y fs)))) : sFld K ta tv f D σ H := h
theorem x_bm {T : String} {r : V → List V → Hp → VK → Prop} (h : te σ H fun x H1 => tyV K T x H1 ∧ A σ H1 fun xs H2 => r x xs H2 Q) : tBM K T r te A σ H Q := h
theorem x_bm0 {T : String} {r : V → List V → Hp → VK → Prop} (h : te σ H fun x H1 => tyV K T x H1 ∧ r x [] H1 Q) : tBM0 K T r te σ H Q := h
theorem x_sl {r : V → Option Int → Option Int → Hp → VK → Prop} {tl th : TO} (h : te σ H fun x H1 => tl σ H1 fun l H2 => th σ H2 fun u H3 => r x l u H3 Q) : L2.tSl r te tl th σ H Q := h
theorem x_noPart {Q : Option Int → Hp → Prop} (h : Q none H) : tNoPart σ H Q := h
theorem x_part {Q : Option Int → Hp → Prop} (h : te σ H fun x H1 => ∃ i, x = .int i ∧ Q (some i) H1) : tPart te σ H Q := h
theorem x_exI {P : Int → Prop} {c : Int} (h : P c) : ∃ k, V.int c = .int k ∧ P k := ⟨c, rfl, h⟩
theorem x_for {wi : TI} {g : TG} (h : wi σ H fun J H1 => ∃ W : Nat → Nat → L2.St → Hp → Prop, (∃ m, W 0 m σ H1) ∧ ∀ i m σ H, W i m σ H → (J.stop i H ∧ D.nx σ H) ∨ (J.go i H ∧ ∃ N : L2.St → Hp → Prop, (∀ σ' H', N σ' H' → ∃ m', m' < m ∧ W (i + 1) m' σ' H') ∧ ∀ x H', J.yld i H x H' → g x σ H' fun σ2 H2 => t { D with nx := N, ct := N, bk := D.nx } σ2 H2)) : tFor wi g t D σ H := h
theorem x_par {j : Nat} (h : A σ H fun vs H1 => ∃ v w, vs = [v, w] ∧ D.nx ((σ.set i (some v)).set j (some w)) H1) : tPar i j A D σ H := h
theorem x_parEx {P : V → V → Prop} {a b : V} (h : P a b) : ∃ v w, [a, b] = [v, w] ∧ P v w := ⟨a, b, rfl, h⟩
theorem x_dnew (h : ∀ p, H p = none → Q (.ref p) (upd H p (.dK []))) : tDNewK σ H Q := h
theorem x_ixL {p : Addr} {xs : List V} {i : Int} (s : SqL K H p xs) (e : atI xs i = some v) (h : Q v H) : rIxL K (.ref p) (.int i) H Q := ⟨p, xs, i, v, rfl, rfl, s, e, h⟩
theorem x_ixT {p : Addr} {xs : List V} {i : Int} (s : SqT K H p xs) (e : atI xs i = some v) (h : Q v H) : rIxT K (.ref p) (.int i) H Q := ⟨p, xs, i, v, rfl, rfl, s, e, h⟩
theorem x_ite2 {c A B : Prop} [Decidable c] (h1 : c → A) (h2 : ¬ c → B) : if c then A else B := ite2 h1 h2
theorem x_iteD {c : Prop} [Decidable c] {A B : Prop} (h1 : c → A) (h2 : ¬ c → B) : if decide c = true then A else B := ite2 (fun h => h1 (of_decide_eq_true h)) (fun h => h2 fun z => h (decide_eq_true z))
theorem x_iteDN {c : Prop} [Decidable c] {A B : Prop} (h1 : ¬ c → A) (h2 : c → B) : if (!decide c) = true then A else B := by
  by_cases h : c
  · rw [decide_eq_true h]; exact iteF (h2 h)
  · rw [decide_eq_false h]; exact iteT (h1 h)
end
end TkL

namespace TkL
open PySem PySem.Spec PySem.Calls PyProof.Rows L2

structure Wk (J : It) (H1 : Hp) (xs : List V) : Prop where
  go : ∀ H i, Ex H1 H → i < xs.length → J.go i H
  yl : ∀ H i x H', Ex H1 H → i < xs.length → J.yld i H x H' → H' = H ∧ xs[i]? = some x
  st : ∀ H i, Ex H1 H → xs.length ≤ i → J.stop i H
theorem Wk.list {K : PySem.W.Frag} {H : Hp} {a : Addr} {xs : List V} (h : SqL K H a xs) : Wk (Itl K a) H xs :=
  ⟨fun H' i e hi => ⟨xs, xs[i], e.sqL h, by simp [hi]⟩, fun H' i x H'' e hi y => ⟨y.1, y.2 xs (e.sqL h)⟩, fun H' i e hi => ⟨xs, e.sqL h, hi⟩⟩
theorem Wk.tup {K : PySem.W.Frag} {H : Hp} {a : Addr} {xs : List V} (h : SqT K H a xs) : Wk (Itt K a) H xs :=
  ⟨fun H' i e hi => ⟨xs, xs[i], e.sqT h, by simp [hi]⟩, fun H' i x H'' e hi y => ⟨y.1, y.2 xs (e.sqT h)⟩, fun H' i e hi => ⟨xs, e.sqT h, hi⟩⟩
def rngV (lo : Int) (n : Nat) : List V := (List.range n).map fun (k : Nat) => V.int (lo + (k : Int))
theorem rngV_length {lo : Int} {n : Nat} : (rngV lo n).length = n := by unfold rngV; simp
theorem rngV_get {lo : Int} {n i : Nat} (h : i < n) : (rngV lo n)[i]? = some (V.int (lo + (i : Int))) := by
  unfold rngV; simp [List.getElem?_range h]
theorem Wk.rng {H : Hp} {lo : Int} {n : Nat} : Wk (Itr lo n) H (rngV lo n) :=
  ⟨fun H' i _ hi => by rw [rngV_length] at hi; exact hi, fun H' i x H'' _ hi y => by rw [rngV_length] at hi; rw [rngV_get hi, y.2]; exact ⟨y.1, rfl⟩, fun H' i _ hi => by rw [rngV_length] at hi; exact hi⟩
def rngC (lo c : Int) (n : Nat) : List V := (List.range n).map fun (k : Nat) => V.int (lo + (k : Int) * c)
theorem rngC_length {lo c : Int} {n : Nat} : (rngC lo c n).length = n := by unfold rngC; simp
theorem rngC_get {lo c : Int} {n i : Nat} (h : i < n) : (rngC lo c n)[i]? = some (V.int (lo + (i : Int) * c)) := by
  unfold rngC; simp [List.getElem?_range h]
theorem Wk.rngc {H : Hp} {lo c : Int} {n : Nat} : Wk (Itc lo c n) H (rngC lo c n) :=
  ⟨fun H' i _ hi => by rw [rngC_length] at hi; exact hi, fun H' i x H'' _ hi y => by rw [rngC_length] at hi; rw [rngC_get hi, y.2]; exact ⟨y.1, rfl⟩, fun H' i _ hi => by rw [rngC_length] at hi; exact hi⟩
theorem Wk.keys {H : Hp} {d : Addr} {o : Obj} {kvs : List (Key × V)} (h : H d = some (.frz o (.dK kvs))) : Wk (Itk d o kvs) H (kvs.map fun p => kV p.1) :=
  ⟨fun H' i e hi => ⟨e _ _ h, by simpa using hi⟩, fun H' i x H'' e hi ⟨y, k, v, q, ex⟩ => ⟨y, by rw [List.getElem?_map, q, ex]; rfl⟩, fun H' i e hi => ⟨e _ _ h, by simpa using hi⟩⟩

theorem lt_of_get {α : Type} {xs : List α} {i : Nat} {x : α} (h : xs[i]? = some x) : i < xs.length := (List.getElem?_eq_some_iff.mp h).1
theorem take_succ_of {α : Type} {xs : List α} {i : Nat} {x : α} (h : xs[i]? = some x) : xs.take (i + 1) = xs.take i ++ [x] := by
  rw [List.take_add_one, h]; rfl

theorem for_wk {J : It} {H0 H1 : Hp} {xs : List V} (W : Wk J H0 xs) {g : TG} {tb : TS} {D : Ends} {σ : L2.St} (Pv : Nat → L2.St → Hp → Prop) (h0 : Pv 0 σ H1) (he : ∀ i σ H, Pv i σ H → Ex H0 H)
    (hs : ∀ i x σ H, xs[i]? = some x → Pv i σ H → g x σ H fun σ2 H2 => tb { D with nx := Pv (i + 1), ct := Pv (i + 1), bk := D.nx } σ2 H2) (hd : ∀ σ H, Pv xs.length σ H → D.nx σ H) :
    ∃ W : Nat → Nat → L2.St → Hp → Prop, (∃ m, W 0 m σ H1) ∧ ∀ i m σ H, W i m σ H →
      (J.stop i H ∧ D.nx σ H) ∨ (J.go i H ∧ ∃ N : L2.St → Hp → Prop, (∀ σ' H', N σ' H' → ∃ m', m' < m ∧ W (i + 1) m' σ' H') ∧ ∀ x H', J.yld i H x H' → g x σ H' fun σ2 H2 => tb { D with nx := N, ct := N, bk := D.nx } σ2 H2) := by
  refine ⟨fun i m σ H => m = xs.length - i ∧ i ≤ xs.length ∧ Pv i σ H, ⟨xs.length, by simp, Nat.zero_le _, h0⟩, ?_⟩
  rintro i m σ H ⟨rfl, hi, p⟩
  have e := he _ _ _ p
  by_cases hlt : i < xs.length
  · refine .inr ⟨W.go H i e hlt, Pv (i + 1), fun σ' H' p' => ⟨xs.length - (i + 1), by omega, rfl, hlt, p'⟩, fun x H' y => ?_⟩
    obtain ⟨e1, e2⟩ := W.yl H i x H' e hlt y
    subst e1
    exact hs i x σ _ e2 p
  · have : i = xs.length := by omega
    subst this
    exact .inl ⟨W.st H _ e (Nat.le_refl _), hd _ _ p⟩
theorem for_enT {K : PySem.W.Frag} {H0 H1 : Hp} {a : Addr} {xs : List V} (h : SqT K H0 a xs) {p q : Nat} {tb : TS} {D : Ends} {σ : L2.St} (Pv : Nat → L2.St → Hp → Prop) (h0 : Pv 0 σ H1) (he : ∀ i σ H, Pv i σ H → Ex H0 H)
    (hs : ∀ i x σ H H', xs[i]? = some x → Pv i σ H → Ex H H' → tb { D with nx := Pv (i + 1), ct := Pv (i + 1), bk := D.nx } ((σ.set p (some (.int (i : Nat)))).set q (some x)) H') (hd : ∀ σ H, Pv xs.length σ H → D.nx σ H) :
    ∃ W : Nat → Nat → L2.St → Hp → Prop, (∃ m, W 0 m σ H1) ∧ ∀ i m σ H, W i m σ H →
      ((IteT K a).stop i H ∧ D.nx σ H) ∨ ((IteT K a).go i H ∧ ∃ N : L2.St → Hp → Prop, (∀ σ' H', N σ' H' → ∃ m', m' < m ∧ W (i + 1) m' σ' H') ∧ ∀ x H', (IteT K a).yld i H x H' → gTup K 2 (gCons (gName p) (gCons (gName q) gNil)) x σ H' fun σ2 H2 => tb { D with nx := N, ct := N, bk := D.nx } σ2 H2) := by
  refine ⟨fun i m σ H => m = xs.length - i ∧ i ≤ xs.length ∧ Pv i σ H, ⟨xs.length, by simp, Nat.zero_le _, h0⟩, ?_⟩
  rintro i m σ H ⟨rfl, hi, pv⟩
  have e := he _ _ _ pv
  by_cases hlt : i < xs.length
  · refine .inr ⟨⟨xs, xs[i], e.sqT h, by simp [hlt]⟩, Pv (i + 1), fun σ' H' p' => ⟨xs.length - (i + 1), by omega, rfl, hlt, p'⟩, fun x H' y => ?_⟩
    obtain ⟨T, z, rfl, hT, rfl, hz⟩ := y
    exact ⟨T, _, rfl, tOf upd_same, rfl, _, _, rfl, _, _, rfl, rfl, hs i z σ H _ (hz xs (e.sqT h)) pv (Ex.new hT)⟩
  · have : i = xs.length := by omega
    subst this
    exact .inl ⟨⟨xs, e.sqT h, Nat.le_refl _⟩, hd _ _ pv⟩
theorem for_enL {K : PySem.W.Frag} {H0 H1 : Hp} {a : Addr} {xs : List V} (h : SqL K H0 a xs) {p q : Nat} {tb : TS} {D : Ends} {σ : L2.St} (Pv : Nat → L2.St → Hp → Prop) (h0 : Pv 0 σ H1) (he : ∀ i σ H, Pv i σ H → Ex H0 H)
    (hs : ∀ i x σ H H', xs[i]? = some x → Pv i σ H → Ex H H' → tb { D with nx := Pv (i + 1), ct := Pv (i + 1), bk := D.nx } ((σ.set p (some (.int (i : Nat)))).set q (some x)) H') (hd : ∀ σ H, Pv xs.length σ H → D.nx σ H) :
    ∃ W : Nat → Nat → L2.St → Hp → Prop, (∃ m, W 0 m σ H1) ∧ ∀ i m σ H, W i m σ H →
      ((Ite K a).stop i H ∧ D.nx σ H) ∨ ((Ite K a).go i H ∧ ∃ N : L2.St → Hp → Prop, (∀ σ' H', N σ' H' → ∃ m', m' < m ∧ W (i + 1) m' σ' H') ∧ ∀ x H', (Ite K a).yld i H x H' → gTup K 2 (gCons (gName p) (gCons (gName q) gNil)) x σ H' fun σ2 H2 => tb { D with nx := N, ct := N, bk := D.nx } σ2 H2) := by
  refine ⟨fun i m σ H => m = xs.length - i ∧ i ≤ xs.length ∧ Pv i σ H, ⟨xs.length, by simp, Nat.zero_le _, h0⟩, ?_⟩
  rintro i m σ H ⟨rfl, hi, pv⟩
  have e := he _ _ _ pv
  by_cases hlt : i < xs.length
  · refine .inr ⟨⟨xs, xs[i], e.sqL h, by simp [hlt]⟩, Pv (i + 1), fun σ' H' p' => ⟨xs.length - (i + 1), by omega, rfl, hlt, p'⟩, fun x H' y => ?_⟩
    obtain ⟨T, z, rfl, hT, rfl, hz⟩ := y
    exact ⟨T, _, rfl, tOf upd_same, rfl, _, _, rfl, _, _, rfl, rfl, hs i z σ H _ (hz xs (e.sqL h)) pv (Ex.new hT)⟩
  · have : i = xs.length := by omega
    subst this
    exact .inl ⟨⟨xs, e.sqL h, Nat.le_refl _⟩, hd _ _ pv⟩
theorem x_while {tc : TT} {tb : TS} {D : Ends} {σ : L2.St} {H : Hp} (Pv : Nat → L2.St → Hp → Prop) (m : Nat) (h0 : Pv m σ H)
    (hs : ∀ m σ H, Pv m σ H → tc σ H fun b H1 => if b = true then ∃ N : L2.St → Hp → Prop, (∀ σ' H', N σ' H' → ∃ m', m' < m ∧ Pv m' σ' H') ∧ tb { D with nx := N, ct := N, bk := D.nx } σ H1 else D.nx σ H1) : tWhile tc tb D σ H :=
  ⟨Pv, ⟨m, h0⟩, fun m σ H p => hs m σ H p⟩
theorem x_whN {tb : TS} {D : Ends} {σ : L2.St} {H : Hp} {Pv : Nat → L2.St → Hp → Prop} {m : Nat} (h : tb { D with nx := fun σ' H' => ∃ m', m' < m ∧ Pv m' σ' H', ct := fun σ' H' => ∃ m', m' < m ∧ Pv m' σ' H', bk := D.nx } σ H) :
    ∃ N : L2.St → Hp → Prop, (∀ σ' H', N σ' H' → ∃ m', m' < m ∧ Pv m' σ' H') ∧ tb { D with nx := N, ct := N, bk := D.nx } σ H := ⟨_, fun _ _ h => h, h⟩

theorem wipe_set1 (σ : L2.St) (j : Nat) (v : Option V) : wipe ((wipe σ [j]).set j v) [j] = wipe σ [j] := by
  show ((σ.set j none).set j v).set j none = σ.set j none
  rw [List.set_set, List.set_set]
theorem wipe_set2 (σ : L2.St) (j k : Nat) (v w : Option V) : wipe (((wipe σ [j, k]).set j v).set k w) [j, k] = wipe σ [j, k] := by
  show (((((σ.set k none).set j none).set j v).set k w).set k none).set j none = (σ.set k none).set j none
  apply List.ext_getElem?
  intro i
  simp only [List.getElem?_set, List.length_set]
  by_cases h1 : j = i <;> by_cases h2 : k = i <;> simp [h1, h2]
theorem lcf {J : It} {H1 : Hp} {xs : List V} (W : Wk J H1 xs) {j : Nat} {tt : TT} {te : TE} {σ : L2.St} {Q : Addr → Hp → Prop} (p : V → Bool) (f : V → V) (hz : xs.length ≤ 1000000)
    (ht : ∀ (i : Nat) x H' (Qb : Bool → Hp → Prop), xs[i]? = some x → Ex H1 H' → Qb (p x) H' → tt ((wipe σ [j]).set j (some x)) H' Qb)
    (hv : ∀ (i : Nat) x H' (Qv : VK), xs[i]? = some x → p x = true → Ex H1 H' → Qv (f x) H' → te ((wipe σ [j]).set j (some x)) H' Qv)
    (hd : ∀ D H', Ex H1 H' → H1 D = none → H' D = some (.lst ((xs.filter p).map f)) → Q D H') :
    ∀ D, H1 D = none → ∃ W : Nat → Nat → Hp → Prop, (∃ m, W 0 m (upd H1 D (.lst []))) ∧ ∀ i m H, W i m H →
      (J.stop i H ∧ Q D H) ∨ (J.go i H ∧ ∃ Nx : Hp → Prop, (∀ H', Nx H' → ∃ m', m' < m ∧ W (i + 1) m' H') ∧ ∀ x H', J.yld i H x H' → gName j x (wipe σ [j]) H' fun σ2 H2 => wipe σ2 [j] = wipe σ [j] ∧ tt σ2 H2 fun b H3 =>
        if b = true then te σ2 H3 fun y H4 => ∃ acc, H4 D = some (.lst acc) ∧ acc.length < sizeLine ∧ Nx (upd H4 D (.lst (acc ++ [y]))) else Nx H3) := by
  intro D hD
  refine ⟨fun i m H => m = xs.length - i ∧ i ≤ xs.length ∧ Ex H1 H ∧ H D = some (.lst (((xs.take i).filter p).map f)), ⟨_, rfl, Nat.zero_le _, Ex.new hD, upd_same⟩, ?_⟩
  rintro i m H ⟨rfl, hi, e, hl⟩
  by_cases hlt : i < xs.length
  · refine .inr ⟨W.go H i e hlt, fun H' => Ex H1 H' ∧ H' D = some (.lst (((xs.take (i + 1)).filter p).map f)), fun H' h => ⟨_, by omega, rfl, hlt, h⟩, fun x H' y => ?_⟩
    obtain ⟨rfl, hx⟩ := W.yl H i x H' e hlt y
    show wipe _ [j] = _ ∧ _
    refine ⟨wipe_set1 _ _ _, ht i x _ _ hx e ?_⟩
    cases hp : p x with
    | false =>
      rw [if_neg Bool.false_ne_true]
      refine ⟨e, ?_⟩
      rw [take_succ_of hx, List.filter_append]
      simp only [List.filter_cons, hp, List.filter_nil, List.append_nil, Bool.false_eq_true, if_false]
      exact hl
    | true =>
      rw [if_pos rfl]
      refine hv i x _ _ hx hp e ⟨_, hl, ?_, e.mut hD, ?_⟩
      · refine sz_lt ?_
        rw [List.length_map]
        refine Nat.lt_of_le_of_lt (List.length_filter_le _ _) ?_
        rw [List.length_take]
        omega
      · rw [upd_same, take_succ_of hx, List.filter_append, List.map_append]
        simp [List.filter_cons, hp]
  · have : i = xs.length := by omega
    subst this
    refine .inl ⟨W.st H _ e (Nat.le_refl _), hd D H e hD ?_⟩
    rw [List.take_length] at hl
    exact hl
theorem lcf_enT {K : PySem.W.Frag} {H1 : Hp} {a : Addr} {xs : List V} (hq : SqT K H1 a xs) {j k : Nat} {tt : TT} {te : TE} {σ : L2.St} {Q : Addr → Hp → Prop} (p : Nat → V → Bool) (f : Nat → V → V) (hz : xs.length ≤ 1000000)
    (ht : ∀ (i : Nat) x H' (Qb : Bool → Hp → Prop), xs[i]? = some x → Ex H1 H' → Qb (p i x) H' → tt (((wipe σ [j, k]).set j (some (.int (i : Nat)))).set k (some x)) H' Qb)
    (hv : ∀ (i : Nat) x H' (Qv : VK), xs[i]? = some x → p i x = true → Ex H1 H' → Qv (f i x) H' → te (((wipe σ [j, k]).set j (some (.int (i : Nat)))).set k (some x)) H' Qv)
    (hd : ∀ D H', Ex H1 H' → H1 D = none → H' D = some (.lst ((xs.zipIdx.filter fun q => p q.2 q.1).map fun q => f q.2 q.1)) → Q D H') :
    ∀ D, H1 D = none → ∃ W : Nat → Nat → Hp → Prop, (∃ m, W 0 m (upd H1 D (.lst []))) ∧ ∀ i m H, W i m H →
      ((IteT K a).stop i H ∧ Q D H) ∨ ((IteT K a).go i H ∧ ∃ Nx : Hp → Prop, (∀ H', Nx H' → ∃ m', m' < m ∧ W (i + 1) m' H') ∧ ∀ x H', (IteT K a).yld i H x H' → gTup K 2 (gCons (gName j) (gCons (gName k) gNil)) x (wipe σ [j, k]) H' fun σ2 H2 => wipe σ2 [j, k] = wipe σ [j, k] ∧ tt σ2 H2 fun b H3 =>
        if b = true then te σ2 H3 fun y H4 => ∃ acc, H4 D = some (.lst acc) ∧ acc.length < sizeLine ∧ Nx (upd H4 D (.lst (acc ++ [y]))) else Nx H3) := by
  intro D hD
  refine ⟨fun i m H => m = xs.length - i ∧ i ≤ xs.length ∧ Ex H1 H ∧ H D = some (.lst (((xs.zipIdx.take i).filter fun q => p q.2 q.1).map fun q => f q.2 q.1)), ⟨_, rfl, Nat.zero_le _, Ex.new hD, upd_same⟩, ?_⟩
  rintro i m H ⟨rfl, hi, e, hl⟩
  by_cases hlt : i < xs.length
  · refine .inr ⟨⟨xs, xs[i], e.sqT hq, by simp [hlt]⟩, fun H' => Ex H1 H' ∧ H' D = some (.lst (((xs.zipIdx.take (i + 1)).filter fun q => p q.2 q.1).map fun q => f q.2 q.1)), fun H' h => ⟨_, by omega, rfl, hlt, h⟩, fun x H' y => ?_⟩
    obtain ⟨T, z, rfl, hT, rfl, hx'⟩ := y
    have hx := hx' xs (e.sqT hq)
    have e2 : Ex H1 (upd H T (.tup [.int (i : Nat), z])) := e.trans (Ex.new hT)
    have hl2 : (upd H T (.tup [.int (i : Nat), z])) D = some (.lst (((xs.zipIdx.take i).filter fun q => p q.2 q.1).map fun q => f q.2 q.1)) := Ex.new hT _ _ hl
    have hz2 : xs.zipIdx[i]? = some (z, i) := by simp [List.getElem?_zipIdx, hx]
    refine ⟨T, _, rfl, tOf upd_same, rfl, _, _, rfl, _, _, rfl, rfl, wipe_set2 _ _ _ _ _, ht i z _ _ hx e2 ?_⟩
    cases hp : p i z with
    | false =>
      rw [if_neg Bool.false_ne_true]
      refine ⟨e2, ?_⟩
      rw [take_succ_of hz2, List.filter_append]
      simp only [List.filter_cons, hp, List.filter_nil, List.append_nil, Bool.false_eq_true, if_false]
      exact hl2
    | true =>
      rw [if_pos rfl]
      refine hv i z _ _ hx hp e2 ⟨_, hl2, ?_, e2.mut hD, ?_⟩
      · refine sz_lt ?_
        rw [List.length_map]
        refine Nat.lt_of_le_of_lt (List.length_filter_le _ _) ?_
        rw [List.length_take]
        omega
      · rw [upd_same, take_succ_of hz2, List.filter_append, List.map_append]
        simp [List.filter_cons, hp]
  · have : i = xs.length := by omega
    subst this
    refine .inl ⟨⟨xs, e.sqT hq, Nat.le_refl _⟩, hd D H e hD ?_⟩
    rw [List.take_of_length_le (by simp)] at hl
    exact hl
theorem lcf_enL {K : PySem.W.Frag} {H1 : Hp} {a : Addr} {xs : List V} (hq : SqL K H1 a xs) {j k : Nat} {tt : TT} {te : TE} {σ : L2.St} {Q : Addr → Hp → Prop} (p : Nat → V → Bool) (f : Nat → V → V) (hz : xs.length ≤ 1000000)
    (ht : ∀ (i : Nat) x H' (Qb : Bool → Hp → Prop), xs[i]? = some x → Ex H1 H' → Qb (p i x) H' → tt (((wipe σ [j, k]).set j (some (.int (i : Nat)))).set k (some x)) H' Qb)
    (hv : ∀ (i : Nat) x H' (Qv : VK), xs[i]? = some x → p i x = true → Ex H1 H' → Qv (f i x) H' → te (((wipe σ [j, k]).set j (some (.int (i : Nat)))).set k (some x)) H' Qv)
    (hd : ∀ D H', Ex H1 H' → H1 D = none → H' D = some (.lst ((xs.zipIdx.filter fun q => p q.2 q.1).map fun q => f q.2 q.1)) → Q D H') :
    ∀ D, H1 D = none → ∃ W : Nat → Nat → Hp → Prop, (∃ m, W 0 m (upd H1 D (.lst []))) ∧ ∀ i m H, W i m H →
      ((Ite K a).stop i H ∧ Q D H) ∨ ((Ite K a).go i H ∧ ∃ Nx : Hp → Prop, (∀ H', Nx H' → ∃ m', m' < m ∧ W (i + 1) m' H') ∧ ∀ x H', (Ite K a).yld i H x H' → gTup K 2 (gCons (gName j) (gCons (gName k) gNil)) x (wipe σ [j, k]) H' fun σ2 H2 => wipe σ2 [j, k] = wipe σ [j, k] ∧ tt σ2 H2 fun b H3 =>
        if b = true then te σ2 H3 fun y H4 => ∃ acc, H4 D = some (.lst acc) ∧ acc.length < sizeLine ∧ Nx (upd H4 D (.lst (acc ++ [y]))) else Nx H3) := by
  intro D hD
  refine ⟨fun i m H => m = xs.length - i ∧ i ≤ xs.length ∧ Ex H1 H ∧ H D = some (.lst (((xs.zipIdx.take i).filter fun q => p q.2 q.1).map fun q => f q.2 q.1)), ⟨_, rfl, Nat.zero_le _, Ex.new hD, upd_same⟩, ?_⟩
  rintro i m H ⟨rfl, hi, e, hl⟩
  by_cases hlt : i < xs.length
  · refine .inr ⟨⟨xs, xs[i], e.sqL hq, by simp [hlt]⟩, fun H' => Ex H1 H' ∧ H' D = some (.lst (((xs.zipIdx.take (i + 1)).filter fun q => p q.2 q.1).map fun q => f q.2 q.1)), fun H' h => ⟨_, by omega, rfl, hlt, h⟩, fun x H' y => ?_⟩
    obtain ⟨T, z, rfl, hT, rfl, hx'⟩ := y
    have hx := hx' xs (e.sqL hq)
    have e2 : Ex H1 (upd H T (.tup [.int (i : Nat), z])) := e.trans (Ex.new hT)
    have hl2 : (upd H T (.tup [.int (i : Nat), z])) D = some (.lst (((xs.zipIdx.take i).filter fun q => p q.2 q.1).map fun q => f q.2 q.1)) := Ex.new hT _ _ hl
    have hz2 : xs.zipIdx[i]? = some (z, i) := by simp [List.getElem?_zipIdx, hx]
    refine ⟨T, _, rfl, tOf upd_same, rfl, _, _, rfl, _, _, rfl, rfl, wipe_set2 _ _ _ _ _, ht i z _ _ hx e2 ?_⟩
    cases hp : p i z with
    | false =>
      rw [if_neg Bool.false_ne_true]
      refine ⟨e2, ?_⟩
      rw [take_succ_of hz2, List.filter_append]
      simp only [List.filter_cons, hp, List.filter_nil, List.append_nil, Bool.false_eq_true, if_false]
      exact hl2
    | true =>
      rw [if_pos rfl]
      refine hv i z _ _ hx hp e2 ⟨_, hl2, ?_, e2.mut hD, ?_⟩
      · refine sz_lt ?_
        rw [List.length_map]
        refine Nat.lt_of_le_of_lt (List.length_filter_le _ _) ?_
        rw [List.length_take]
        omega
      · rw [upd_same, take_succ_of hz2, List.filter_append, List.map_append]
        simp [List.filter_cons, hp]
  · have : i = xs.length := by omega
    subst this
    refine .inl ⟨⟨xs, e.sqL hq, Nat.le_refl _⟩, hd D H e hD ?_⟩
    rw [List.take_of_length_le (by simp)] at hl
    exact hl

def mkD (ks : List Int) : List (Key × V) := ks.foldl (fun m k => putK m (Sum.inl k) (.bl true)) []
theorem mkD_snoc (ks : List Int) (k : Int) : mkD (ks ++ [k]) = putK (mkD ks) (Sum.inl k) (.bl true) := by unfold mkD; rw [List.foldl_append]; rfl
theorem key_in_putK {kvs : List (Key × V)} {k : Key} {v : V} (q : Key) : q ∈ (putK kvs k v).map (·.1) ↔ q ∈ kvs.map (·.1) ∨ q = k := by
  unfold putK
  split
  · rename_i h
    have e : (kvs.map fun kv => if kv.1 = k then (kv.1, v) else kv).map (·.1) = kvs.map (·.1) := by
      rw [List.map_map]
      apply List.map_congr_left
      intro p _
      simp only [Function.comp]
      split <;> rfl
    rw [e]
    refine ⟨Or.inl, fun z => z.elim id fun z => ?_⟩
    subst z
    obtain ⟨p, hp, e⟩ := List.any_eq_true.mp h
    exact List.mem_map.mpr ⟨p, hp, of_decide_eq_true e⟩
  · rw [List.map_append, List.mem_append]
    simp
theorem mkD_fold : ∀ (ks : List Int) (acc : List (Key × V)) (q : Key), q ∈ (ks.foldl (fun m k => putK m (Sum.inl k) (.bl true)) acc).map (·.1) ↔ q ∈ acc.map (·.1) ∨ ∃ k ∈ ks, q = Sum.inl k
  | [], acc, q => by simp
  | k :: ks, acc, q => by
    rw [List.foldl_cons, mkD_fold ks, key_in_putK]
    simp only [List.mem_cons]
    constructor
    · rintro ((z | e) | ⟨z, hz, e⟩)
      · exact .inl z
      · exact .inr ⟨k, .inl rfl, e⟩
      · exact .inr ⟨z, .inr hz, e⟩
    · rintro (z | ⟨z, hz | hz, e⟩)
      · exact .inl (.inl z)
      · subst hz; exact .inl (.inr e)
      · exact .inr ⟨z, hz, e⟩
theorem mkD_mem (ks : List Int) (q : Key) : q ∈ (mkD ks).map (·.1) ↔ ∃ k ∈ ks, q = Sum.inl k := by
  unfold mkD
  rw [mkD_fold]
  simp
theorem valV_isSome {kvs : List (Key × V)} {q : Key} : (valV kvs q).isSome = true ↔ q ∈ kvs.map (fun p : Key × V => p.1) := by
  rw [← valV_any, List.any_eq_true, List.mem_map]
  constructor
  · rintro ⟨p, hp, e⟩; exact ⟨p, hp, of_decide_eq_true e⟩
  · rintro ⟨p, hp, e⟩; exact ⟨p, hp, decide_eq_true e⟩
theorem mkD_has (ks : List Int) (t : Int) : (valV (mkD ks) (Sum.inl t)).isSome = decide (t ∈ ks) := by
  rw [Bool.eq_iff_iff, decide_eq_true_iff, valV_isSome, mkD_mem]
  constructor
  · rintro ⟨k, hk, e⟩; cases e; exact hk
  · intro h; exact ⟨t, h, rfl⟩
theorem length_putK {kvs : List (Key × V)} {k : Key} {v : V} : (putK kvs k v).length ≤ kvs.length + 1 := by
  unfold putK
  split
  · rw [List.length_map]; omega
  · rw [List.length_append]; exact Nat.le_refl _
theorem mkD_len (ks : List Int) : (mkD ks).length ≤ ks.length := by
  have : ∀ (ks : List Int) (acc : List (Key × V)), (ks.foldl (fun m k => putK m (Sum.inl k) (.bl true)) acc).length ≤ acc.length + ks.length := by
    intro ks
    induction ks with
    | nil => intro acc; simp
    | cons k r ih =>
      intro acc
      rw [List.foldl_cons, List.length_cons]
      have a := ih (putK acc (Sum.inl k) (.bl true))
      have c := length_putK (kvs := acc) (k := Sum.inl k) (v := .bl true)
      omega
  have := this ks []
  simpa [mkD] using this
def keysD (kvs : List (Key × V)) : List Int := kvs.filterMap fun p => match p.1 with | .inl i => some i | .inr _ => none
theorem mkD_nodup (ks : List Int) : ((mkD ks).map (·.1)).Nodup := by
  have : ∀ (ks : List Int) (acc : List (Key × V)), (acc.map (·.1)).Nodup → ((ks.foldl (fun m k => putK m (Sum.inl k) (.bl true)) acc).map (·.1)).Nodup := by
    intro ks
    induction ks with
    | nil => intro acc h; exact h
    | cons k r ih =>
      intro acc h
      refine ih _ ?_
      show ((putK acc (Sum.inl k) (.bl true)).map (·.1)).Nodup
      unfold putK
      split
      · rename_i hh
        have e : (acc.map fun kv => if kv.1 = Sum.inl k then (kv.1, V.bl true) else kv).map (·.1) = acc.map (·.1) := by
          rw [List.map_map]
          apply List.map_congr_left
          intro p _
          simp only [Function.comp]
          split <;> rfl
        rw [e]; exact h
      · rename_i hh
        rw [List.map_append, List.nodup_append]
        refine ⟨h, by simp, fun a ha b hb e => hh ?_⟩
        simp only [List.map_cons, List.map_nil, List.mem_singleton] at hb
        subst hb e
        obtain ⟨p, hp, e⟩ := List.mem_map.mp ha
        exact List.any_eq_true.mpr ⟨p, hp, decide_eq_true e⟩
  exact this ks [] List.nodup_nil
theorem mkD_keys (ks : List Int) : ∃ zs : List Int, (mkD ks).map (fun p => kV p.1) = zs.map V.int ∧ zs.Nodup ∧ (∀ z, z ∈ zs ↔ z ∈ ks) ∧ zs.length ≤ ks.length := by
  have key : ∀ kvs : List (Key × V), (∀ q ∈ kvs.map (·.1), ∃ k : Int, q = Sum.inl k) → (kvs.map (·.1)).Nodup → ∃ zs : List Int, kvs.map (fun p => kV p.1) = zs.map V.int ∧ zs.Nodup ∧ (∀ z, z ∈ zs ↔ (Sum.inl z : Key) ∈ kvs.map (·.1)) ∧ zs.length = kvs.length := by
    intro kvs
    induction kvs with
    | nil => intro _ _; exact ⟨[], rfl, List.nodup_nil, by simp, rfl⟩
    | cons p r ih =>
      intro h hn
      rw [List.map_cons, List.nodup_cons] at hn
      obtain ⟨zs, e1, e2, e3, e4⟩ := ih (fun q hq => h q (List.mem_cons_of_mem _ hq)) hn.2
      obtain ⟨k, ek⟩ := h p.1 List.mem_cons_self
      refine ⟨k :: zs, ?_, ?_, ?_, by simp [e4]⟩
      · rw [List.map_cons, List.map_cons, e1, ek]; rfl
      · rw [List.nodup_cons]
        refine ⟨fun hk => hn.1 ?_, e2⟩
        rw [ek]; exact (e3 k).mp hk
      · intro z
        rw [List.mem_cons, List.map_cons, List.mem_cons, e3, ek]
        constructor
        · rintro (e | e)
          · exact .inl (by rw [e])
          · exact .inr e
        · rintro (e | e)
          · exact .inl (Sum.inl.inj e)
          · exact .inr e
  obtain ⟨zs, e1, e2, e3, e4⟩ := key (mkD ks) (fun q hq => by obtain ⟨k, _, e⟩ := (mkD_mem ks q).mp hq; exact ⟨k, e⟩) (mkD_nodup ks)
  refine ⟨zs, e1, e2, fun z => ?_, by rw [e4]; exact mkD_len ks⟩
  rw [e3, mkD_mem]
  constructor
  · rintro ⟨k, hk, e⟩; cases e; exact hk
  · intro h; exact ⟨z, h, rfl⟩
theorem dcf {J : It} {H1 : Hp} {xs : List V} (W : Wk J H1 xs) {j : Nat} {tk tv : TE} {σ : L2.St} {Q : Addr → Hp → Prop} (f : Nat → Int) (hz : xs.length ≤ 1000000)
    (hk : ∀ (i : Nat) x H' (Qv : VK), xs[i]? = some x → Ex H1 H' → Qv (.int (f i)) H' → tk ((wipe σ [j]).set j (some x)) H' Qv)
    (hv : ∀ (i : Nat) x H' (Qv : VK), xs[i]? = some x → Ex H1 H' → Qv (.bl true) H' → tv ((wipe σ [j]).set j (some x)) H' Qv)
    (hd : ∀ D H', Ex H1 H' → H1 D = none → H' D = some (.dK (mkD ((List.range xs.length).map f))) → Q D H') :
    ∀ D, H1 D = none → ∃ W : Nat → Nat → Hp → Prop, (∃ m, W 0 m (upd H1 D (.dK []))) ∧ ∀ i m H, W i m H →
      (J.stop i H ∧ Q D H) ∨ (J.go i H ∧ ∃ Nx : Hp → Prop, (∀ H', Nx H' → ∃ m', m' < m ∧ W (i + 1) m' H') ∧ ∀ x H', J.yld i H x H' → gName j x (wipe σ [j]) H' fun σ2 H2 => wipe σ2 [j] = wipe σ [j] ∧ tYes σ2 H2 fun b H3 =>
        if b = true then tk σ2 H3 fun y H4 => tv σ2 H4 fun z H5 => ∃ kvs k, y = kV k ∧ H5 D = some (.dK kvs) ∧ kvs.length < sizeLine ∧ Nx (upd H5 D (.dK (putK kvs k z))) else Nx H3) := by
  intro D hD
  refine ⟨fun i m H => m = xs.length - i ∧ i ≤ xs.length ∧ Ex H1 H ∧ H D = some (.dK (mkD ((List.range i).map f))), ⟨_, rfl, Nat.zero_le _, Ex.new hD, upd_same⟩, ?_⟩
  rintro i m H ⟨rfl, hi, e, hl⟩
  by_cases hlt : i < xs.length
  · refine .inr ⟨W.go H i e hlt, fun H' => Ex H1 H' ∧ H' D = some (.dK (mkD ((List.range (i + 1)).map f))), fun H' h => ⟨_, by omega, rfl, hlt, h⟩, fun x H' y => ?_⟩
    obtain ⟨rfl, hx⟩ := W.yl H i x H' e hlt y
    show wipe _ [j] = _ ∧ _
    refine ⟨wipe_set1 _ _ _, ?_⟩
    show tYes ((wipe σ [j]).set j (some x)) H' _
    unfold tYes
    dsimp only
    rw [if_pos rfl]
    refine hk i x _ _ hx e (hv i x _ _ hx e ⟨_, Sum.inl (f i), rfl, hl, ?_, e.mut hD, ?_⟩)
    · refine sz_lt (Nat.lt_of_le_of_lt (mkD_len _) ?_)
      rw [List.length_map, List.length_range]
      omega
    · rw [upd_same, List.range_succ, List.map_append]
      show some (HO.dK _) = some (HO.dK (mkD (_ ++ [f i])))
      rw [mkD_snoc]
  · have : i = xs.length := by omega
    subst this
    exact .inl ⟨W.st H _ e (Nat.le_refl _), hd D H e hD hl⟩
end TkL

namespace TkL
open PySem PySem.Spec PySem.Calls PyProof.Rows L2
section
variable {X : Cx}
def kLen (K : PySem.W.Frag) : List V → Hp → VK → Prop := fun xs H Q => ∃ p ys, xs = [.ref p] ∧ (SqL K H p ys ∨ SqT K H p ys) ∧ Q (.int ys.length) H
theorem c_len : CallR X (.builtin "len") (kLen X.K) := call_len_seq
def kLenS : List V → Hp → VK → Prop := fun xs H Q => ∃ z, xs = [.str z] ∧ z.length ≤ sizeLine ∧ Q (.int z.length) H
theorem c_lenS : CallR X (.builtin "len") kLenS := call_len_str
def kIsi (K : PySem.W.Frag) : List V → Hp → VK → Prop := L2.rIsi K
theorem c_isi : CallR X (.builtin "isinstance") (kIsi X.K) := L2.call_isi
def kInt : List V → Hp → VK → Prop := fun xs H Q => (∃ i, xs = [.int i] ∧ Q (.int i) H) ∨ ∃ k, xs = [.bl k] ∧ Q (.int (if k then 1 else 0)) H
theorem c_int : CallR X (.type "int") kInt := call_int1
def kIntS : List V → Hp → VK → Prop := fun xs H Q => ∃ a n, xs = [.str a] ∧ PySem.intText? a = some n ∧ a.length ≤ 640 ∧ Q (.int n) H
theorem c_intS : CallR X (.type "int") kIntS := call_int_str
def kStr : List V → Hp → VK → Prop := fun xs H Q => ∃ i, xs = [.int i] ∧ i.natAbs.log2 < 1920 ∧ Q (.str (toString i)) H
theorem c_str : CallR X (.type "str") kStr := call_str_int
def kBool : List V → Hp → VK → Prop := fun xs H Q => (∃ i, xs = [.int i] ∧ Q (.bl (i != 0)) H) ∨ ∃ k, xs = [.bl k] ∧ Q (.bl k) H
theorem c_bool : CallR X (.type "bool") kBool := call_bool1
def kList (K : PySem.W.Frag) : List V → Hp → VK → Prop := fun xs H Q => ∃ p ys, xs = [.ref p] ∧ (SqL K H p ys ∨ SqT K H p ys) ∧ ∀ l, H l = none → Q (.ref l) (upd H l (.lst ys))
theorem c_list : CallR X (.type "list") (kList X.K) := call_list_of
def kTuple (K : PySem.W.Frag) : List V → Hp → VK → Prop := fun xs H Q => ∃ p ys, xs = [.ref p] ∧ ((SqL K H p ys ∧ ∀ l, H l = none → Q (.ref l) (upd H l (.tup ys))) ∨ (SqT K H p ys ∧ Q (.ref p) H))
theorem c_tuple : CallR X (.type "tuple") (kTuple X.K) := call_tuple_of
def kDivmod : List V → Hp → VK → Prop := fun xs H Q => ∃ i j, xs = [.int i, .int j] ∧ CDiv i j ∧ ∀ p, H p = none → Q (.ref p) (upd H p (.tup [.int (i / j), .int (i % j)]))
theorem c_divmod : CallR X (.builtin "divmod") kDivmod := call_divmod
def kAbs : List V → Hp → VK → Prop := fun xs H Q => ∃ i, xs = [.int i] ∧ Q (.int (if i < 0 then -i else i)) H
theorem c_abs : CallR X (.builtin "abs") kAbs := call_abs
def kMax2 : List V → Hp → VK → Prop := fun xs H Q => ∃ i j, xs = [.int i, .int j] ∧ Q (.int (if j > i then j else i)) H
theorem c_max2 (h : X.calm = true) : CallR X (.builtin "max") kMax2 := call_max2 h
def kMin2 : List V → Hp → VK → Prop := fun xs H Q => ∃ i j, xs = [.int i, .int j] ∧ Q (.int (if j < i then j else i)) H
theorem c_min2 (h : X.calm = true) : CallR X (.builtin "min") kMin2 := call_min2 h
def kDict (K : PySem.W.Frag) : List V → Hp → VK → Prop := fun xs H Q => ∃ (a : Addr) (ps : List Addr) (kvs : List (Key × V)), xs = [.ref a] ∧ SqL K H a (ps.map V.ref) ∧ Paired (fun p kv => SqT K H p [kV kv.1, kv.2]) ps kvs ∧ ∀ p, H p = none → Q (.ref p) (upd H p (.dK (mergeK [] kvs)))
theorem c_dict (h : X.calm = true) : CallR X (.type "dict") (kDict X.K) := call_dictP h
def mSplit : V → List V → Hp → VK → Prop := fun x xs H Q => ∃ a b, x = .str a ∧ xs = [.str b] ∧ (b.length == 0) = false ∧ a.length + 2 ≤ sizeLine ∧ rNewStrs (Txt.split a b) H Q
theorem m_split : MtR X "str.split" mSplit := mt_split
def mJoin (K : PySem.W.Frag) : V → List V → Hp → VK → Prop := fun x xs H Q => ∃ a p, ∃ ys : List Str, x = .str a ∧ xs = [.ref p] ∧ (SqL K H p (ys.map V.str) ∨ SqT K H p (ys.map V.str)) ∧ (ys.map (·.length)).sum + ys.length * a.length ≤ 16777216 ∧ Q (.str (Txt.join a ys)) H
theorem m_join : MtR X "str.join" (mJoin X.K) := mt_join
def rInSig : R2 := fun x y H Q => ∃ (c : Nat) (z : Str), x = .str ⟨#[c]⟩ ∧ y = .str z ∧ Q (.bl (decide (c ∈ z.cps.toList))) H
theorem o_inSig : OpR X (compareOp .In) rInSig := op_in_sign
def rNotInSig : R2 := fun x y H Q => ∃ (c : Nat) (z : Str), x = .str ⟨#[c]⟩ ∧ y = .str z ∧ Q (.bl (!decide (c ∈ z.cps.toList))) H
theorem o_notInSig : OpR X (compareOp .NotIn) rNotInSig := op_notIn_sign
def rIsNon : R2 := fun x y H Q => y = .non ∧ Q (.bl (decide (x = .non))) H
theorem o_isNon : OpR X (compareOp .Is) rIsNon := op_isN
def rNotNon : R2 := fun x y H Q => y = .non ∧ Q (.bl (!decide (x = .non))) H
theorem o_notNon : OpR X (compareOp .IsNot) rNotNon := op_notN
def rAddS : R2 := fun x y H Q => ∃ i j, x = .str i ∧ y = .str j ∧ i.length + j.length ≤ sizeLine ∧ Q (.str (i ++ j)) H
theorem o_addS : OpR X (binaryOp .Add) rAddS := op_add_str
def tJoin (ts : List TE) : TE := fun σ H Q => tJs ts Str.empty σ H fun out H1 => Q (.str out) H1
theorem pe_join {v1 v2 : Expr} {rest : List Expr} {ts : List TE} {pos : Pos} (h : PJ X (v1 :: v2 :: rest) ts) : PE X (.JoinedStr (v1 :: v2 :: rest) pos) (tJoin ts) := pe_joined h
def iSeq (K : PySem.W.Frag) (tl : TE) : TI := fun σ H R => tl σ H fun x H1 => ∃ a xs, x = .ref a ∧ (SqL K H1 a xs ∨ SqT K H1 a xs) ∧ ∀ J, Wk J H1 xs → R J H1
theorem pi_seq {l tg : Expr} {tl : TE} (hl : PE X l tl) : PI X tg l (iSeq X.K tl) := by
  refine ⟨fun pins s σ H R I h => ?_⟩
  refine thn (hl.run pins s σ H _ I h) fun v s1 ⟨x, H1, I1, r1, a, xs, e, hq, q⟩ => ?_
  subst e
  cases r1
  rcases hq with hq | hq
  · obtain ⟨its, rv, p, hz⟩ := I1.list hq
    refine wpAny_pyIter_list p.isList ?_
    refine ⟨s1.heap.objs.size, [s1.heap.objs.size], _, _, H1, rfl, I1.kept (t' := s1.toks) fun b o e => Heap.get?_push_of_some _ e, turn_list a _, ⟨_, Heap.get?_push_size _ rfl, rfl, rfl⟩, fun b hb => ?_, q _ (Wk.list hq)⟩
    have e : b = s1.heap.objs.size := by simpa using hb
    subst e
    exact I1.fpOk (Nat.le_refl _) (I1.hok.fresh (Nat.le_refl _))
  · obtain ⟨its, rv, p, hz⟩ := I1.tuple hq
    refine wpAny_pyIter_tuple (show s1.heap.IsTuple a its.toArray from p) ?_
    refine ⟨s1.heap.objs.size, [s1.heap.objs.size], _, _, H1, rfl, I1.kept (t' := s1.toks) fun b o e => Heap.get?_push_of_some _ e, turn_tuple a _, ⟨_, Heap.get?_push_size _ rfl, rfl, rfl⟩, fun b hb => ?_, q _ (Wk.tup hq)⟩
    have e : b = s1.heap.objs.size := by simpa using hb
    subst e
    exact I1.fpOk (Nat.le_refl _) (I1.hok.fresh (Nat.le_refl _))
def GlobI (mg : Str → Option Value) (x : Str) (n : Int) : Prop := ∃ t, mg x = some (.int n t)
def GlobS (mg : Str → Option Value) (x : Str) (z : Str) : Prop := ∃ t, mg x = some (.str z t)
theorem pe_gi {x : Str} {n : Int} {pos : Pos} (h : GlobI X.mg x n) (hg : Gl X x := by rfl) (hd : (x == ("__debug__" : Str)) = false := by decide) : PE X (.Name x pos) (tC (.int n)) :=
  let ⟨t, e⟩ := h; pe_glob hg e ⟨t, rfl⟩ hd
theorem pe_gs {x : Str} {z : Str} {pos : Pos} (h : GlobS X.mg x z) (hg : Gl X x := by rfl) (hd : (x == ("__debug__" : Str)) = false := by decide) : PE X (.Name x pos) (tC (.str z)) :=
  let ⟨t, e⟩ := h; pe_glob hg e ⟨t, rfl⟩ hd
theorem pe_gc {x : Str} {C : Addr} {pos : Pos} (h : X.mg x = some (.ref C)) (hg : Gl X x := by rfl) (hd : (x == ("__debug__" : Str)) = false := by decide) : PE X (.Name x pos) (tC (.ref C)) :=
  pe_glob hg h rfl hd
theorem pe_bt {x : Str} {T : String} {pos : Pos} (hm : X.mg x = none) (hv : bootBuiltins x = some (.type T) := by decide +kernel) (hg : Gl X x := by rfl) (hn : x ≠ "__name__" := by decide) (hd : (x == ("__debug__" : Str)) = false := by decide) : PE X (.Name x pos) (tC (.ty T)) :=
  pe_bltn hg hm hv rfl hn hd
end
structure Blt (mg : Str → Option Value) : Prop where
  range : mg "range" = none
  len : mg "len" = none
  isinstance : mg "isinstance" = none
  bool : mg "bool" = none
  int : mg "int" = none
  list : mg "list" = none
  tuple : mg "tuple" = none
  str : mg "str" = none
  sum : mg "sum" = none
  all : mg "all" = none
  any : mg "any" = none
  sorted : mg "sorted" = none
  dict : mg "dict" = none
  max : mg "max" = none
  min : mg "min" = none
  divmod : mg "divmod" = none
  abs : mg "abs" = none
  enumerate : mg "enumerate" = none
structure Cst (mg : Str → Option Value) : Prop where
  MAX_TICK : GlobI mg "MAX_TICK" 1000000000000000000
  MAX_LENGTH : GlobI mg "MAX_LENGTH" 20000
  MAX_BEGIN : GlobI mg "MAX_BEGIN" 100000
  DIGITS : GlobS mg "DIGITS" "0123456789"
  MAX_DIGITS : GlobI mg "MAX_DIGITS" 6
  NEVER : GlobS mg "NEVER" "never"
  BAR : GlobS mg "BAR" "|"
structure RowC (K : PySem.W.Frag) (mg : Str → Option Value) (C : Addr) : Prop where
  own : OwnC K C
  ne : NeC K C
  gC : mg "Row" = some (.ref C)
  early : NoAttr K C "early"
  begin_ : NoAttr K C "begin"
  length : NoAttr K C "length"
  offsets : NoAttr K C "offsets"
  marks : NoAttr K C "marks"
  parts : NoAttr K C "parts"
  insC : L2.ClsV (.ref C) (.ref C) ∧ PySem.W.kitOne K (.ref C) (.ref C) = some true
end TkL

namespace TkL
open PySem PySem.Spec PySem.Calls PyProof.Rows L2
section
variable {X : Cx} {CX : CXT} {k i : Nat} {C : Addr} {m x : Str} {ps : List Str} {sp : Sp} {E : XK} {o e fe : Expr} {es : List Expr} {ta te tf : TE} {tt : TT} {t : TA} {p apos pos : Pos}
theorem rm2 {A : Around} (hr : Room k A) : A.units + 2 < cLine := by have := hr.un; omega
theorem rm1 {A : Around} (hr : Room k A) : A.units + 1 < cLine := by have := hr.un; omega
theorem rm64 {A : Around} (hr : Room k A) : A.units + 64 < cLine := by have := hr.un; omega
theorem rm0 {A : Around} (hr : Room k A) : A.units < cLine := by have := hr.un; omega
def tIns (C : Addr) (sp : Sp) (E : XK) (tf : TE) (t : TA) : TE := fun σ H Q => tf σ H fun y H1 => ∃ a, y = V.ref a ∧ t σ H1 fun vs H2 => (∃ dx fs, H2 a = some (.ins C dx fs)) ∧ sp (V.ref a :: vs) H2 Q E
theorem pe_insN (F : MetN X.prog X.w X.K X.mg X.base CX k C "__call__" ps sp) (hr : Room k X.A) (hx : Passes CX X E) (hf : PE X fe tf) (ha : PA X (e :: es) t)
    (ht : eval (.Call fe (e :: es) [] pos) X.env = (do callWith pos (← eval fe X.env) [] (backTo pos (starEach (e :: es) X.env)) (backToKw pos (keywordEach [] X.env))) := by rfl)
    (he : starEach (e :: es) X.env = (false, eval e X.env) :: starEach es X.env := by rfl) (hpl : (backTo pos (starEach es X.env)).any (·.1) = false := by rfl) : PE X (.Call fe (e :: es) [] pos) (tIns C sp E tf t) := by
  obtain ⟨f, a, b, c, d⟩ := F.raw
  refine ⟨fun pins s σ H Q I h => ?_⟩
  refine Call_ (thn (hf.run pins s σ H _ I h) fun u s1 ⟨y, H1, I1, ry, a, ey, q⟩ => ?_) ht
  subst ey
  obtain rfl : u = Value.ref a := ry
  refine StX.callO_with (thn (ha.run pos pins s1 σ H1 _ I1 q) fun us s2 ⟨vs, H2, I2, r, ⟨dx, fs, hi⟩, q2⟩ => ?_) he hpl
  have hi' : StX.InsC X H2 a C := .inr ⟨dx, fs, hi⟩
  obtain ⟨ox, od, J, hd⟩ := StX.insC_at I2 hi'
  exact ⟨⟨C, ox, od, J, hd⟩, StX.run_callO ⟨by assumption, by assumption, by assumption⟩ d hr hx I2 hi' r q2⟩
theorem ps_setDc {i : Nat} {y : Str} {py : Pos} {kx vx tg iter : Expr} {ifs : List Expr} {scope : Scope} {own : List (Str × Nat)} {pos spos : Pos} {wi : TI} {g : TG} {tt : TT} {tk tv : TE} (hc : X.calm = true) (hN : X.N.Nodup) (hy : X.N[i]? = some y) (hyl : X.env.scope.names.lookup y = some .local)
    (hsw : swapsWith (.DictComp kx vx [⟨tg, iter, ifs, 0⟩] scope pos) (some (.Name y py)) spos.line X.env = pure true) (hi : PI X tg iter wi) (ok : BlkOk X.N X.env.scope scope own)
    (hg : ∀ (s : Shared) (H : Hp) (C : Addr) (cl : List (Str × Addr)) (fp : List Addr), PG (X.blk s H scope (compEnvC scope cl C X.env) fp) tg g) (ht : ∀ (s : Shared) (H : Hp) (C : Addr) (cl : List (Str × Addr)) (fp : List Addr), PTs (X.blk s H scope (compEnvC scope cl C X.env) fp) ifs tt)
    (hk : ∀ (s : Shared) (H : Hp) (C : Addr) (cl : List (Str × Addr)) (fp : List Addr), PE (X.blk s H scope (compEnvC scope cl C X.env) fp) kx tk)
    (he : ∀ (s : Shared) (H : Hp) (C : Addr) (cl : List (Str × Addr)) (fp : List Addr), PE (X.blk s H scope (compEnvC scope cl C X.env) fp) vx tv) (hs : ∀ x, foldedSetIterable iter X.env x = pure x := by intro _; rfl) :
    PS X (.Assign [.Name y py] (.DictComp kx vx [⟨tg, iter, ifs, 0⟩] scope pos) spos) (tAsg (tDc wi g tt tk tv (own.map (·.2))) (gName i)) := by
  refine ⟨fun pins s σ H D I h => ?_⟩
  rw [exec_Assign_Name_used _ _ _ _ hsw]
  refine wpAny_bind (wpAny_standAt (wpAny_bind ?_))
  show wpAny _ X.A (do let _ ← comprehension (.DictComp kx vx [⟨tg, iter, ifs, 0⟩] scope pos) scope X.env (firstIterPos [⟨tg, iter, ifs, 0⟩] pos) newDict false (eval iter X.env) (some (assign (.Name y py) X.env))) _ _ s
  have h : tDc wi g tt tk tv (own.map (·.2)) σ H (fun x H1 => gName i x σ H1 D.nx) := h
  refine wpAny_bind (thn (dc_core (Qf := fun _ s' => SP X pins D .next s') hc hN I hi ok hg ht hk he hs h fun L C s' m H' I' q hn f => ?_) fun _ s' hq => wpAny_pure (wpAny_pure hq))
  show wpAny _ _ (assign (.Name y py) X.env (.ref L)) _ _ _
  refine wpAny_assign_Name (store_ok2 (v := V.ref L) I' hN hy (.inl hyl) rfl (fun s2 I2 ⟨a, sb, ha⟩ => ?_) (.inr hyl))
  obtain ⟨f0, f1, f2, f3, f4, f5⟩ := f
  have haC : C ≠ a := by
    rcases ha with z | z
    · rw [z]; exact f1
    · exact fun e => f4 y a z e.symm
  refine ⟨m, hn.sameBut sb haC, fun h3 sb3 => ?_⟩
  exact ⟨_, H', I2.turned (t' := s2.toks) (fun b o hb e => (sb3.2 b hb).trans e) f0 f1 f3 f4 f5, q⟩
theorem swd_true {kx vx : Expr} {gs : List Comprehension} {scope : Scope} {pos py : Pos} {y : Str} {l : Nat} {env : Env} (hk : env.scope.kind = .function) (hy : env.scope.names.lookup y = some .local) (hl : (py.line == pos.line) = true)
    (ha : (scope.names.any fun (n, k) => n == y && (k == .local || k == .cell)) = false) : swapsWith (.DictComp kx vx gs scope pos) (some (.Name y py)) l env = pure true := by
  have ky : env.kindOf y = some .local := hy
  have hb : env.blockKind = .function := by unfold Env.blockKind; rw [hk]; rfl
  unfold swapsWith
  simp only [hb, ky, ha, Expr.pos, hl]
  rfl
end
section
variable {σ : L2.St} {H : Hp} {Q : VK} {D : Ends} {t u : TS} {ta tb tc te tf : TE} {tt tu : TT} {A : TA} {v x y : V} {i : Nat} {K : PySem.W.Frag} {C : Addr} {sp : Sp} {E : XK}
theorem x_ins (h : tf σ H fun y H1 => ∃ a, y = V.ref a ∧ A σ H1 fun vs H2 => (∃ dx fs, H2 a = some (.ins C dx fs)) ∧ sp (V.ref a :: vs) H2 Q E) : tIns C sp E tf A σ H Q := h
theorem x_mk (h : A σ H fun vs H1 => ∀ (x dx : Addr), H1 x = none → H1 dx = none → dx ≠ x → sp (V.ref x :: vs) (upd (upd H1 dx (.own x)) x (.ins C dx [])) (fun v H2 => v = V.non ∧ Q (V.ref x) H2) E) : tMk C sp E A σ H Q := h
theorem x_mkV (hv : σ[i]? = some (some (V.ref C))) (h : A σ H fun vs H1 => ∀ (x dx : Addr), H1 x = none → H1 dx = none → dx ≠ x → sp (V.ref x :: vs) (upd (upd H1 dx (.own x)) x (.ins C dx [])) (fun v H2 => v = V.non ∧ Q (V.ref x) H2) E) : tMkV i C sp E A σ H Q := ⟨hv, h⟩
theorem x_exR {P : Addr → Prop} {a : Addr} (h : P a) : ∃ b, V.ref a = .ref b ∧ P b := ⟨a, rfl, h⟩
theorem x_aug {r : TIp} {v : V} (e : σ[i]? = some (some v)) (h : te σ H fun y H1 => r v y H1 fun z H2 => D.nx (List.set σ i (some z)) H2) : tAug i te r D σ H := ⟨v, e, h⟩
theorem x_ipI {f : Int → Int → Int} {a b : Int} (h : Q (.int (f a b)) H) : ipI f (.int a) (.int b) H Q := ⟨a, b, rfl, rfl, h⟩
theorem x_par3 {j l : Nat} (h : A σ H fun vs H1 => ∃ u v w, vs = [u, v, w] ∧ D.nx (((List.set σ i (some u)).set j (some v)).set l (some w)) H1) : tPar3 i j l A D σ H := h
theorem x_par3Ex {P : V → V → V → Prop} {a b c : V} (h : P a b c) : ∃ u v w, [a, b, c] = [u, v, w] ∧ P u v w := ⟨a, b, c, rfl, h⟩
theorem x_isNonT {x : V} (h : Q (.bl (decide (x = .non))) H) : rIsNon x .non H Q := ⟨rfl, h⟩
theorem x_notNonT {x : V} (h : Q (.bl (!decide (x = .non))) H) : rNotNon x .non H Q := ⟨rfl, h⟩
theorem x_lst0 (h : ∀ p H', Ex H H' → H p = none → H' p = some (.lst []) → Q (.ref p) H') : tLst tNil σ H Q := ⟨Nat.zero_le _, x_new h⟩
theorem x_tup0 (h : ∀ p H', Ex H H' → H p = none → H' p = some (.tup []) → Q (.ref p) H') : tTup tNil σ H Q := ⟨Nat.zero_le _, x_new h⟩
theorem x_kint {i : Int} (h : Q (.int i) H) : kInt [.int i] H Q := .inl ⟨i, rfl, h⟩
theorem x_kintb {b : Bool} (h : Q (.int (if b then 1 else 0)) H) : kInt [.bl b] H Q := .inr ⟨b, rfl, h⟩
theorem x_kdiv {i j : Int} (c : CDiv i j) (h : ∀ p H', Ex H H' → H p = none → H' p = some (.tup [.int (i / j), .int (i % j)]) → Q (.ref p) H') : kDivmod [.int i, .int j] H Q := ⟨i, j, rfl, c, x_new h⟩
theorem x_gtup2 {p : Addr} {Q : L2.St → Hp → Prop} {v w : V} {j : Nat} (s : SqT K H p [v, w]) (h : Q ((σ.set i (some v)).set j (some w)) H) : gTup K 2 (gCons (gName i) (gCons (gName j) gNil)) (.ref p) σ H Q := ⟨p, _, rfl, s, rfl, _, _, rfl, _, _, rfl, rfl, h⟩
theorem x_gtup3 {p : Addr} {Q : L2.St → Hp → Prop} {u v w : V} {j l : Nat} (s : SqT K H p [u, v, w]) (h : Q (((σ.set i (some u)).set j (some v)).set l (some w)) H) : gTup K 3 (gCons (gName i) (gCons (gName j) (gCons (gName l) gNil))) (.ref p) σ H Q := ⟨p, _, rfl, s, rfl, _, _, rfl, _, _, rfl, _, _, rfl, rfl, h⟩
end
end TkL

namespace Tk
def cntLe (l : List Int) (t : Int) : Nat := (l.filter fun x => decide (x ≤ t)).length
def RV.count (r : RV) (t : Int) : Int := if t < r.beg then (cntLe r.early t : Nat) else (r.early.length : Nat) + (t - r.beg) / r.len * (r.offs.length : Nat) + (cntLe r.offs ((t - r.beg) % r.len) : Nat)
def RV.nth (r : RV) (n : Int) : Int := if n < r.early.length then r.early.getD n.toNat 0 else r.beg + (n - r.early.length) / r.offs.length * r.len + r.offs.getD ((n - r.early.length) % r.offs.length).toNat 0
def diffs : List Int → List Int
  | [] => []
  | [_] => []
  | a :: b :: l => (b - a) :: diffs (b :: l)
def RV.laps (r : RV) : List Int := diffs (r.offs ++ (r.offs.take 1).map (· + r.len))
def RV.flaps (r : RV) : List Int := diffs (r.early ++ (r.offs.take 1).map (r.beg + ·))
def tks : Int → List Int → List Int
  | a, [] => [a]
  | a, b :: l => a :: tks (a + b) l
def ticksOf : List Int → List Int
  | [] => []
  | a :: l => tks a l
structure RB (r : RV) : Prop where
  c : Canon r
  bb : r.beg ≤ 200000
  lb : r.len ≤ 20000
def planHas (s : Int) (fs ls : List Int) (t : Int) : Bool := qhas (tks s fs).dropLast (s + fs.sum) ls.sum (tks 0 ls).dropLast t
end Tk
namespace TkL
open PySem PySem.Spec PySem.Calls PyProof.Rows L2 Tk
def zI (l : List Int) : List V := l.map V.int
def rowFs (p1 : Addr) (b l : Int) (p2 p3 p4 : Addr) : List (Str × V) := [("early", .ref p1), ("begin", .int b), ("length", .int l), ("offsets", .ref p2), ("marks", .ref p3), ("parts", .ref p4)]
structure RowI (K : PySem.W.Frag) (C : Addr) (H : Hp) (a : Addr) (r : RV) (dx p1 p2 p3 p4 : Addr) : Prop where
  ob : H a = some (.ins C dx (rowFs p1 r.beg r.len p2 p3 p4))
  e : SqT K H p1 (zI r.early)
  o : SqT K H p2 (zI r.offs)
  m : H p3 = some (.dK (mkD r.offs))
  p : SqT K H p4 [.ref p1, .int r.beg, .int r.len, .ref p2]
  rb : RB r
def RowAt (K : PySem.W.Frag) (C : Addr) (H : Hp) (a : Addr) (r : RV) : Prop := ∃ dx p1 p2 p3 p4, RowI K C H a r dx p1 p2 p3 p4
def Seq (K : PySem.W.Frag) (H : Hp) (p : Addr) (xs : List V) : Prop := SqL K H p xs ∨ SqT K H p xs
structure TyF (K : PySem.W.Frag) (C : Addr) : Prop where
  row_row : PySem.W.kitOne K (.ref C) (.ref C) = some true
  insX : ∀ (H : Hp) (a dx : Addr) (fs : List (Str × V)), H a = some (.ins C dx fs) → TyX K H (.ref a) (.ref C)
  cl : Cls K C
  early : NoAttr K C "early"
  begin_ : NoAttr K C "begin"
  length : NoAttr K C "length"
  offsets : NoAttr K C "offsets"
  marks : NoAttr K C "marks"
  parts : NoAttr K C "parts"
  int_int : PySem.W.kitOne K (.type "int") (.type "int") = some true
  int_bool : PySem.W.kitOne K (.type "int") (.type "bool") = some false
  bool_int : PySem.W.kitOne K (.type "bool") (.type "int") = some true
  bool_bool : PySem.W.kitOne K (.type "bool") (.type "bool") = some true
  str_int : PySem.W.kitOne K (.type "str") (.type "int") = some false
  none_int : PySem.W.kitOne K (.type "NoneType") (.type "int") = some false
section
variable (K : PySem.W.Frag) (C : Addr)
def spIii : Sp := fun vs H Q _ => ∃ x lo hi, vs = [x, .int lo, .int hi] ∧ ((∃ i, x = .int i ∧ Q (.bl (decide (lo ≤ i) && decide (i ≤ hi))) H) ∨ ((∃ b, x = .bl b) ∨ x = .non ∨ ∃ z, x = .str z) ∧ Q (.bl false) H)
def spInit : Sp := fun vs H Q _ => ∃ a dx p1 p2 r, vs = [.ref a, .ref p1, .int r.beg, .int r.len, .ref p2] ∧ H a = some (.ins C dx []) ∧ SqT K H p1 (zI r.early) ∧ SqT K H p2 (zI r.offs) ∧ RB r ∧
  ∀ H', (∀ x o, x ≠ a → H x = some o → H' x = some o) → RowAt K C H' a r → Q .non H'
def spGcd : Sp := fun vs H Q _ => ∃ a b : Int, vs = [.int a, .int b] ∧ 0 < a ∧ 0 ≤ b ∧ a < 1073741824 ∧ b < 1073741824 ∧ Q (.int (Int.gcd a b)) H
def spHolds : Sp := fun vs H Q _ => ∃ a t r, vs = [.ref a, .int t] ∧ RowAt K C H a r ∧ Q (.bl (r.has t)) H
def spCount : Sp := fun vs H Q _ => ∃ a t r, vs = [.ref a, .int t] ∧ RowAt K C H a r ∧ ∀ H', Ex H H' → Q (.int (r.count t)) H'
def spCall : Sp := fun vs H Q _ => ∃ a t r, vs = [.ref a, .int t] ∧ RowAt K C H a r ∧ 0 ≤ t ∧ t ≤ 1000000000000000000 ∧ ∀ H', Ex H H' → Q (.int (r.count t)) H'
def spContains : Sp := fun vs H Q _ => ∃ a x r, vs = [.ref a, x] ∧ RowAt K C H a r ∧ ((∃ t, x = .int t ∧ Q (.bl (decide (0 ≤ t) && decide (t ≤ 1000000000000000000) && r.has t)) H) ∨ ((∃ b, x = .bl b) ∨ x = .non ∨ ∃ z, x = .str z) ∧ Q (.bl false) H)
def spBool : Sp := fun vs H Q _ => ∃ a r, vs = [.ref a] ∧ RowAt K C H a r ∧ Q (.bl (decide (0 < (r.early.length : Int) + r.offs.length))) H
def spItem : Sp := fun vs H Q _ => ∃ a n r, vs = [.ref a, .int n] ∧ RowAt K C H a r ∧ 0 ≤ n ∧ n ≤ 1000000000000000000 ∧ (n < r.early.length ∨ r.offs ≠ []) ∧ ∀ H', Ex H H' → Q (.int (r.nth n)) H'
def spEq : Sp := fun vs H Q _ => ∃ a b r s, vs = [.ref a, .ref b] ∧ RowAt K C H a r ∧ RowAt K C H b s ∧ Q (.bl (decide (r = s))) H
def spEndless : Sp := fun vs H Q _ => ∃ a r, vs = [.ref a] ∧ RowAt K C H a r ∧ ∀ H', Ex H H' → Q (.bl (decide (r.offs ≠ []))) H'
def spRep : Sp := fun vs H Q _ => ∃ a r, vs = [.ref a] ∧ RowAt K C H a r ∧ ∀ H' p, Ex H H' → H' p = some (.tup [.int r.beg, .int r.len, .int r.offs.length]) → Q (.ref p) H'
def spLaps : Sp := fun vs H Q _ => ∃ a r, vs = [.ref a] ∧ RowAt K C H a r ∧ ∀ H' p, Ex H H' → H' p = some (.tup (zI r.laps)) → Q (.ref p) H'
def spFlaps : Sp := fun vs H Q _ => ∃ a r, vs = [.ref a] ∧ RowAt K C H a r ∧ ∀ H' p, Ex H H' → H' p = some (.tup (zI r.flaps)) → Q (.ref p) H'
def spTicksOf : Sp := fun vs H Q _ => ∃ p ns, vs = [.ref p] ∧ SqL K H p (zI ns) ∧ ns ≠ [] ∧ ns.length ≤ 500000 ∧ ∀ H' q, Ex H H' → H q = none → H' q = some (.lst (zI (ticksOf ns))) → Q (.ref q) H'
def spShortest : Sp := fun vs H Q _ => ∃ l p o, vs = [.int l, .ref p] ∧ Seq K H p (zI o) ∧ 1 ≤ l ∧ l ≤ 20000 ∧ (∀ x ∈ o, 0 ≤ x ∧ x < l) ∧ o.length ≤ 20000 ∧ ∀ H' n, Ex H H' → Shortest l o n → Q (.int n) H'
def spNormal : Sp := fun vs H Q _ => ∃ pe po e b l o, vs = [.ref pe, .int b, .int l, .ref po] ∧ SqL K H pe (zI e) ∧ Seq K H po (zI o) ∧ WF e b l o ∧ b ≤ 200000 ∧ l ≤ 20000 ∧
  ∀ H' a r, Ex H H' → H a = none → RowAt K C H' a r → (∀ t, r.has t = qhas e b l o t) → Q (.ref a) H'
def spRowOfLaps : Sp := fun vs H Q _ => ∃ s pf pl fs ls, vs = [.int s, .ref pf, .ref pl] ∧ Seq K H pf (zI fs) ∧ Seq K H pl (zI ls) ∧ 0 ≤ s ∧ (∀ x ∈ fs, 1 ≤ x) ∧ (∀ x ∈ ls, 1 ≤ x) ∧ ls ≠ [] ∧ s + fs.sum ≤ 200000 ∧ ls.sum ≤ 20000 ∧
  ∀ H' a r, Ex H H' → H a = none → RowAt K C H' a r → (∀ t, r.has t = planHas s fs ls t) → Q (.ref a) H'
def spRowOfTicks : Sp := fun vs H Q _ => ∃ p ts, vs = [.ref p] ∧ SqL K H p (zI ts) ∧ ts ≠ [] ∧ ts.Pairwise (· < ·) ∧ (∀ x ∈ ts, 0 ≤ x ∧ x < 200000) ∧
  ∀ H' a r, Ex H H' → H a = none → RowAt K C H' a r → (∀ t, r.has t = decide (t ∈ ts)) → Q (.ref a) H'
end

def rdig (c : Nat) : Bool := decide (c ∈ ("0123456789" : Str).cps.toList)
def readN (w : Str) : Option Int := if 1 ≤ w.length ∧ w.length ≤ 6 ∧ w.cps.toList.all rdig = true ∧ ¬ (1 < w.length ∧ w.cps.toList[0]? = some 48) then PySem.intText? w else none
def readV (w : Str) : V := match readN w with | none => .non | some n => .int n
abbrev PSt : Type := List Int × Option Nat
def stepP (place : Nat) (w : Str) (s : PSt) : Option PSt :=
  if w = "|" ∧ s.2 = none ∧ 0 < place then some (s.1, some s.1.length)
  else match readN w with
    | none => none
    | some n => if (n = 0 ∧ 0 < place) ∨ 100000 < n then none else match s.2 with
      | none => if 100000 < (s.1 ++ [n]).sum then none else some (s.1 ++ [n], none)
      | some b => if 20000 < ((s.1 ++ [n]).drop b).sum then none else some (s.1 ++ [n], some b)
def runP : Nat → List Str → PSt → Option PSt
  | _, [], s => some s
  | i, w :: ws, s => match stepP i w s with
    | none => none
    | some s' => runP (i + 1) ws s'
def parseSet (z : Str) : Option (Int → Bool) :=
  if z = "never" then some fun _ => false
  else match runP 0 (Txt.split z " ") ([], none) with
    | none => none
    | some (ns, none) => some fun t => decide (t ∈ ticksOf ns)
    | some (ns, some b) => if b = ns.length then none else some (planHas (ns.getD 0 0) ((ns.drop 1).take (b - 1)) (ns.drop b))
section
variable (K : PySem.W.Frag) (C : Addr)
def spReadNumber : Sp := fun vs H Q _ => ∃ w : Str, vs = [.str w] ∧ w.length ≤ sizeLine ∧ ∀ H', Ex H H' → Q (readV w) H'
def spParse : Sp := fun vs H Q _ => ∃ z S, vs = [.ref C, .str z] ∧ z.length ≤ 100000 ∧ parseSet z = some S ∧ ∀ H' a r, Ex H H' → H a = none → RowAt K C H' a r → (∀ t, r.has t = S t) → Q (.ref a) H'
structure WFD (ds : List Int) : Prop where
  l2 : 2 ≤ ds.length
  nn : ∀ x ∈ ds, 0 ≤ x
  sm : ds.getD 0 0 < 2147483647
def DAt (d : Addr) (H : Hp) : Prop := ∃ ds, H d = some (.lst (zI ds)) ∧ WFD ds
def Kp (d : Addr) (H H' : Hp) : Prop := ∀ x o, x ≠ d → H x = some o → H' x = some o
structure PlanOk (m s : Int) (fs ls : List Int) : Prop where
  s0 : 0 ≤ s
  s1 : s < 60
  fl : fs.length ≤ 3
  fr : ∀ x ∈ fs, 1 ≤ x ∧ x ≤ 60
  ln : ls ≠ []
  ll : (ls.length : Int) ≤ m
  lr : ∀ x ∈ ls, 1 ≤ x ∧ x ≤ 60
def spRandom : Sp := fun vs H Q _ => ∃ p ns salt, vs = [.ref p, .int salt] ∧ SqL K H p (zI ns) ∧ ns.length ≤ 63 ∧ 0 ≤ salt ∧ salt < 1000 ∧ ∀ H' d, Ex H H' → H d = none → DAt d H' → Q (.ref d) H'
def spBelow : Sp := fun vs H Q _ => ∃ d n, vs = [.ref d, .int n] ∧ DAt d H ∧ 0 < n ∧ n < 1073741824 ∧ ∀ H' v, Kp d H H' → DAt d H' → 0 ≤ v → v < n → Q (.int v) H'
def spLawLaps : Sp := fun vs H Q _ => ∃ d m, vs = [.ref d, .int m] ∧ DAt d H ∧ 1 ≤ m ∧ m ≤ 100 ∧ ∀ H' p ls, Kp d H H' → DAt d H' → H' p = some (.tup (zI ls)) → ls ≠ [] → (ls.length : Int) ≤ m → (∀ x ∈ ls, 1 ≤ x ∧ x ≤ 60) → Q (.ref p) H'
def spPlan : Sp := fun vs H Q _ => ∃ d m, vs = [.ref d, .int m] ∧ DAt d H ∧ 1 ≤ m ∧ m ≤ 100 ∧ ∀ H' p s pf fs pl ls, Kp d H H' → DAt d H' → H' p = some (.tup [.int s, .ref pf, .ref pl]) → H' pf = some (.tup (zI fs)) → H' pl = some (.tup (zI ls)) → PlanOk m s fs ls → Q (.ref p) H'
def spLawRow : Sp := fun vs H Q _ => ∃ p s pf fs pl ls, vs = [.ref p] ∧ SqT K H p [.int s, .ref pf, .ref pl] ∧ SqT K H pf (zI fs) ∧ SqT K H pl (zI ls) ∧ PlanOk 100 s fs ls ∧ ∀ H' a r, Ex H H' → H a = none → RowAt K C H' a r → (∀ t, r.has t = planHas s fs ls t) → Q (.ref a) H'
def spSomeTick : Sp := fun vs H Q _ => ∃ d, vs = [.ref d] ∧ DAt d H ∧ ∀ H' t, Kp d H H' → DAt d H' → 0 ≤ t → t ≤ 1000000000000000000 → Q (.int t) H'
end
def spLaw (K : PySem.W.Frag) : Sp := fun vs H Q _ => ∃ (a : Addr) (ns : List Int), vs = [.ref a] ∧ SqL K H a (ns.map V.int) ∧ ns.length ≤ 63 ∧ ∀ H', Q (.bl true) H'
end TkL


namespace TkL
open PySem PySem.Spec PySem.Calls PyProof.Rows L2 Tk
section
variable (K : PySem.W.Frag) (C : Addr)
def tPis_int_in : TS := (tRet (tAndV (tCB (kIsi K) (tCons (tVar 0) (tCons (tC (.ty "int")) tNil))) (tAndV (tNotV (tCB (kIsi K) (tCons (tVar 0) (tCons (tC (.ty "bool")) tNil)))) (tChain (rI0 fun i j => V.bl (decide (i ≤ j))) (rI0 fun i j => V.bl (decide (i ≤ j))) (tVar 1) (tVar 0) (tVar 2)))))
def tRinit : TS := (tSeq (sFld K (tVar 0) (tVar 1) "early")
    (tSeq (sFld K (tVar 0) (tVar 2) "begin")
    (tSeq (sFld K (tVar 0) (tVar 3) "length")
    (tSeq (sFld K (tVar 0) (tVar 4) "offsets")
    (tSeq (sFld K (tVar 0) (tDc (iTup K (tVar 4)) (gName 5) tYes (tVar 5) (tC (.bl true)) [5]) "marks")
    (sFld K (tVar 0) (tTup (tCons (tVar 1) (tCons (tVar 2) (tCons (tVar 3) (tCons (tVar 4) tNil))))) "parts"))))))
def tRholds : TS := (tSeq (tIfS (tTest (tOp (rI0 fun i j => V.bl (decide (i < j))) (tVar 1) (tFld K (tVar 0) "begin"))) (tRet (tOp (rIn K false) (tVar 1) (tFld K (tVar 0) "early"))) tNext)
    (tRet (tDIn (tOp (rI (fun _ j => 0 < j) fun i j => V.int (i % j)) (tOp (rI0 fun i j => V.int (i - j)) (tVar 1) (tFld K (tVar 0) "begin")) (tFld K (tVar 0) "length")) (tFld K (tVar 0) "marks"))))
def tRcount : TS := (tSeq (tIfS (tTest (tOp (rI0 fun i j => V.bl (decide (i < j))) (tVar 1) (tFld K (tVar 0) "begin"))) (tRet (tCB (kLen K) (tCons (tLc (iTup K (tFld K (tVar 0) "early")) (gName 4) (tTest (tOp (rI0 fun i j => V.bl (decide (i ≤ j))) (tVar 4) (tVar 1))) (tVar 4) [4]) tNil))) tNext)
    (tSeq (tAsg (tCB kDivmod (tCons (tOp (rI0 fun i j => V.int (i - j)) (tVar 1) (tFld K (tVar 0) "begin")) (tCons (tFld K (tVar 0) "length") tNil))) (gTup K 2 (gCons (gName 2) (gCons (gName 3) gNil))))
    (tRet (tOp (rI0 fun i j => V.int (i + j)) (tOp (rI0 fun i j => V.int (i + j)) (tCB (kLen K) (tCons (tFld K (tVar 0) "early") tNil)) (tOp (rI CMul fun i j => V.int (i * j)) (tVar 2) (tCB (kLen K) (tCons (tFld K (tVar 0) "offsets") tNil)))) (tCB (kLen K) (tCons (tLc (iTup K (tFld K (tVar 0) "offsets")) (gName 4) (tTest (tOp (rI0 fun i j => V.bl (decide (i ≤ j))) (tVar 4) (tVar 3))) (tVar 4) [4]) tNil))))))
def tRcall : TS := (tSeq (tIfS (tNot (tB (tDef (spIii) E0 (tCons (tVar 1) (tCons (tC (.int 0)) (tCons (tC (.int 1000000000000000000)) tNil)))))) tNever tNext)
    (tRet (tMet C "count" (spCount K C) E0 (tVar 0) (tCons (tVar 1) tNil))))
def tRcontains : TS := (tRet (tAndV (tDef (spIii) E0 (tCons (tVar 1) (tCons (tC (.int 0)) (tCons (tC (.int 1000000000000000000)) tNil)))) (tMet C "holds" (spHolds K C) E0 (tVar 0) (tCons (tVar 1) tNil))))
def tRbool : TS := (tRet (tOp (rI0 fun i j => V.bl (decide (j < i))) (tOp (rI0 fun i j => V.int (i + j)) (tCB (kLen K) (tCons (tFld K (tVar 0) "early") tNil)) (tCB (kLen K) (tCons (tFld K (tVar 0) "offsets") tNil))) (tC (.int 0))))
def tRitem : TS := (tSeq (tIfS (tNot (tB (tDef (spIii) E0 (tCons (tVar 1) (tCons (tC (.int 0)) (tCons (tC (.int 1000000000000000000)) tNil)))))) tNever tNext)
    (tSeq (tIfS (tTest (tOp (rI0 fun i j => V.bl (decide (i < j))) (tVar 1) (tCB (kLen K) (tCons (tFld K (tVar 0) "early") tNil)))) (tRet (tOp (rIxT K) (tFld K (tVar 0) "early") (tVar 1))) tNext)
    (tSeq (tIfS (tTest (tOp (rEqD K) (tFld K (tVar 0) "offsets") (tTup tNil))) tNever tNext)
    (tSeq (tAsg (tCB kDivmod (tCons (tOp (rI0 fun i j => V.int (i - j)) (tVar 1) (tCB (kLen K) (tCons (tFld K (tVar 0) "early") tNil))) (tCons (tCB (kLen K) (tCons (tFld K (tVar 0) "offsets") tNil)) tNil))) (gTup K 2 (gCons (gName 2) (gCons (gName 3) gNil))))
    (tRet (tOp (rI0 fun i j => V.int (i + j)) (tOp (rI0 fun i j => V.int (i + j)) (tFld K (tVar 0) "begin") (tOp (rI CMul fun i j => V.int (i * j)) (tVar 2) (tFld K (tVar 0) "length"))) (tOp (rIxT K) (tFld K (tVar 0) "offsets") (tVar 3))))))))
def tRrepetition : TS := (tRet (tTup (tCons (tFld K (tVar 0) "begin") (tCons (tFld K (tVar 0) "length") (tCons (tCB (kLen K) (tCons (tFld K (tVar 0) "offsets") tNil)) tNil)))))
def tRlaps : TS := (tSeq (tAsg (tLst tNil) (gName 1))
    (tSeq (tFor (iEnumA K (tCons (tFld K (tVar 0) "offsets") tNil)) (gTup K 2 (gCons (gName 2) (gCons (gName 3) gNil))) (tSeq (tAsg (tOp rEq (tOp (rI0 fun i j => V.int (i + j)) (tVar 2) (tC (.int 1))) (tCB (kLen K) (tCons (tFld K (tVar 0) "offsets") tNil))) (gName 4))
    (tDrop (tBM K "list" rAppend (tVar 1) (tCons (tOp (rI0 fun i j => V.int (i - j)) (tIf (tB (tVar 4)) (tOp (rI0 fun i j => V.int (i + j)) (tOp (rIxT K) (tFld K (tVar 0) "offsets") (tC (.int 0))) (tFld K (tVar 0) "length")) (tOp (rIxT K) (tFld K (tVar 0) "offsets") (tOp (rI0 fun i j => V.int (i + j)) (tVar 2) (tC (.int 1))))) (tVar 3)) tNil)))))
    (tRet (tCB (kTuple K) (tCons (tVar 1) tNil)))))
def tRfirst_laps : TS := (tSeq (tAsg (tCB (kList K) (tCons (tFld K (tVar 0) "early") tNil)) (gName 1))
    (tSeq (tIfS (tTest (tOp (rNeD K) (tFld K (tVar 0) "offsets") (tTup tNil))) (tDrop (tBM K "list" rAppend (tVar 1) (tCons (tOp (rI0 fun i j => V.int (i + j)) (tFld K (tVar 0) "begin") (tOp (rIxT K) (tFld K (tVar 0) "offsets") (tC (.int 0)))) tNil))) tNext)
    (tRet (tCB (kTuple K) (tCons (tLc (iRng1 (tCons (tOp (rI0 fun i j => V.int (i - j)) (tCB (kLen K) (tCons (tVar 1) tNil)) (tC (.int 1))) tNil)) (gName 2) tYes (tOp (rI0 fun i j => V.int (i - j)) (tOp (rIxL K) (tVar 1) (tOp (rI0 fun i j => V.int (i + j)) (tVar 2) (tC (.int 1)))) (tOp (rIxL K) (tVar 1) (tVar 2))) [2]) tNil)))))
def tPread_number : TS := (tSeq (tIfS (tOr (tNot (tTest (tChain (rI0 fun i j => V.bl (decide (i ≤ j))) (rI0 fun i j => V.bl (decide (i ≤ j))) (tC (.int 1)) (tCB kLenS (tCons (tVar 0) tNil)) (tC (.int 6))))) (tB (tCB (rAny K) (tCons (tLc (iStr (tVar 0)) (gName 1) tYes (tOp rNotInSig (tVar 1) (tC (.str "0123456789"))) [1]) tNil)))) (tRet (tC .non)) tNext)
    (tRet (tIf (tAnd (tTest (tOp (rI0 fun i j => V.bl (decide (j < i))) (tCB kLenS (tCons (tVar 0) tNil)) (tC (.int 1)))) (tTest (tOp rEq (tOp rIxS (tVar 0) (tC (.int 0))) (tC (.str "0"))))) (tC .non) (tCB kIntS (tCons (tVar 0) tNil)))))
def tPticks_of : TS := (tSeq (tAsg (tLst (tCons (tOp (rIxL K) (tVar 0) (tC (.int 0))) tNil)) (gName 1))
    (tSeq (tFor (iList K (L2.tSl (rSlL K) (tVar 0) (tPart (tC (.int 1))) tNoPart)) (gName 2) (tDrop (tBM K "list" rAppend (tVar 1) (tCons (tOp (rI0 fun i j => V.int (i + j)) (tOp (rIxL K) (tVar 1) (tUn (rU fun i => V.int (-i)) (tC (.int 1)))) (tVar 2)) tNil))))
    (tRet (tVar 1))))
def tProw_of_ticks : TS := (tRet (tDef (spNormal K C) E0 (tCons (tVar 0) (tCons (tOp (rI0 fun i j => V.int (i + j)) (tOp (rIxL K) (tVar 0) (tUn (rU fun i => V.int (-i)) (tC (.int 1)))) (tC (.int 1))) (tCons (tC (.int 1)) (tCons (tLst tNil) tNil))))))
def tProw_of_laps : TS := (tSeq (tAsg (tDef (spTicksOf K) E0 (tCons (tOp rCat (tLst (tCons (tVar 0) tNil)) (tCB (kList K) (tCons (tVar 1) tNil))) tNil)) (gName 3))
    (tSeq (tAsg (tBM0 K "list" rPop (tVar 3)) (gName 4))
    (tSeq (tAsg (tDef (spTicksOf K) E0 (tCons (tOp rCat (tLst (tCons (tC (.int 0)) tNil)) (tCB (kList K) (tCons (tVar 2) tNil))) tNil)) (gName 5))
    (tSeq (tAsg (tBM0 K "list" rPop (tVar 5)) (gName 6))
    (tRet (tDef (spNormal K C) E0 (tCons (tVar 3) (tCons (tVar 4) (tCons (tVar 6) (tCons (tVar 5) tNil))))))))))
def tPshortest : TS := (tSeq (tAsg (tDc (iSeq K (tVar 1)) (gName 4) tYes (tVar 4) (tC (.bl true)) [4]) (gName 2))
    (tSeq (tFor (iRng2 (tCons (tC (.int 1)) (tCons (tVar 0) tNil))) (gName 3) (tIfS (tAnd (tTest (tOp rEq (tOp (rI (fun _ j => 0 < j) fun i j => V.int (i % j)) (tVar 0) (tVar 3)) (tC (.int 0)))) (tB (tCB (rAll K) (tCons (tLc (iSeq K (tVar 1)) (gName 4) tYes (tDIn (tOp (rI (fun _ j => 0 < j) fun i j => V.int (i % j)) (tOp (rI0 fun i j => V.int (i + j)) (tVar 4) (tVar 3)) (tVar 0)) (tVar 2)) [4]) tNil)))) (tRet (tVar 3)) tNext))
    (tRet (tVar 0))))
def tPnormal : TS := (tSeq (tIfS (tTest (tOp rEq (tCB (kLen K) (tCons (tVar 3) tNil)) (tC (.int 0)))) (tRet (tMk C (spInit K C) E0 (tCons (tCB (kTuple K) (tCons (tVar 0) tNil)) (tCons (tIf (tTest (tOp (rI0 fun i j => V.bl (decide (j < i))) (tCB (kLen K) (tCons (tVar 0) tNil)) (tC (.int 0)))) (tOp (rI0 fun i j => V.int (i + j)) (tOp (rIxL K) (tVar 0) (tUn (rU fun i => V.int (-i)) (tC (.int 1)))) (tC (.int 1))) (tC (.int 0))) (tCons (tC (.int 1)) (tCons (tTup tNil) tNil)))))) tNext)
    (tSeq (tAsg (tDef (spShortest K) E0 (tCons (tVar 2) (tCons (tVar 3) tNil))) (gName 4))
    (tSeq (tAsg (tDc (iSeq K (tVar 3)) (gName 11) tYes (tOp (rI (fun _ j => 0 < j) fun i j => V.int (i % j)) (tVar 11) (tVar 4)) (tC (.bl true)) [11]) (gName 5))
    (tSeq (tAsg (tTup (tCons (tVar 1) (tCons (tC (.int 0)) (tCons (tCB (kLen K) (tCons (tVar 0) tNil)) tNil)))) (gTup K 3 (gCons (gName 6) (gCons (gName 7) (gCons (gName 8) gNil)))))
    (tSeq (tWhile (tTest (tOp (rI0 fun i j => V.bl (decide (j < i))) (tVar 6) (tC (.int 0)))) (tSeq (tAsg (tAndV (tOp (rI0 fun i j => V.bl (decide (j < i))) (tVar 8) (tC (.int 0))) (tOp rEq (tOp (rIxL K) (tVar 0) (tOp (rI0 fun i j => V.int (i - j)) (tVar 8) (tC (.int 1)))) (tOp (rI0 fun i j => V.int (i - j)) (tVar 6) (tC (.int 1))))) (gName 10))
    (tSeq (tIfS (tTest (tOp rNe (tVar 10) (tDIn (tOp (rI (fun _ j => 0 < j) fun i j => V.int (i % j)) (tOp (rI0 fun i j => V.int (i - j)) (tUn (rU fun i => V.int (-i)) (tC (.int 1))) (tVar 7)) (tVar 4)) (tVar 5)))) tBreak tNext)
    (tAsg (tTup (tCons (tOp (rI0 fun i j => V.int (i - j)) (tVar 6) (tC (.int 1))) (tCons (tOp (rI0 fun i j => V.int (i + j)) (tVar 7) (tC (.int 1))) (tCons (tOp (rI0 fun i j => V.int (i - j)) (tVar 8) (tCB kInt (tCons (tVar 10) tNil))) tNil)))) (gTup K 3 (gCons (gName 6) (gCons (gName 7) (gCons (gName 8) gNil))))))))
    (tSeq (tLock (tAsg (tLc (iKeys (tVar 5)) (gName 12) tYes (tOp (rI (fun _ j => 0 < j) fun i j => V.int (i % j)) (tOp (rI0 fun i j => V.int (i + j)) (tVar 12) (tVar 7)) (tVar 4)) [12]) (gName 9)))
    (tRet (tMk C (spInit K C) E0 (tCons (tCB (kTuple K) (tCons (L2.tSl (rSlL K) (tVar 0) tNoPart (tPart (tVar 8))) tNil)) (tCons (tVar 6) (tCons (tVar 4) (tCons (tCB (kTuple K) (tCons (tCB (rSortedI K) (tCons (tLc (iList K (tVar 9)) (gName 12) tYes (tCB kInt (tCons (tVar 12) tNil)) [12]) tNil)) tNil)) tNil))))))))))))
def tRparse : TS := (tSeq (tIfS (tTest (tOp rEq (tVar 1) (tC (.str "never")))) (tRet (tMkV 0 C (spInit K C) E0 (tCons (tTup tNil) (tCons (tC (.int 0)) (tCons (tC (.int 1)) (tCons (tTup tNil) tNil)))))) tNext)
    (tSeq (tAsg (tBM K "str" mSplit (tVar 1) (tCons (tC (.str " ")) tNil)) (gName 2))
    (tSeq (tPar 3 4 (tCons (tLst tNil) (tCons (tC .non) tNil)))
    (tSeq (tFor (iEnumA K (tCons (tVar 2) tNil)) (gTup K 2 (gCons (gName 5) (gCons (gName 6) gNil))) (tIfS (tAnd (tTest (tOp rEq (tVar 6) (tC (.str "|")))) (tAnd (tTest (tOp rIsNon (tVar 4) (tC .non))) (tTest (tOp (rI0 fun i j => V.bl (decide (j < i))) (tVar 5) (tC (.int 0)))))) (tAsg (tCB (kLen K) (tCons (tVar 3) tNil)) (gName 4)) (tSeq (tAsg (tDef (spReadNumber) E0 (tCons (tVar 6) tNil)) (gName 7))
    (tSeq (tIfS (tOr (tTest (tOp rIsNon (tVar 7) (tC .non))) (tOr (tAnd (tTest (tOp rEq (tVar 7) (tC (.int 0)))) (tTest (tOp (rI0 fun i j => V.bl (decide (j < i))) (tVar 5) (tC (.int 0))))) (tTest (tOp (rI0 fun i j => V.bl (decide (j < i))) (tVar 7) (tC (.int 100000)))))) tNever tNext)
    (tSeq (tDrop (tBM K "list" rAppend (tVar 3) (tCons (tVar 7) tNil)))
    (tIfS (tOr (tAnd (tTest (tOp rIsNon (tVar 4) (tC .non))) (tTest (tOp (rI0 fun i j => V.bl (decide (j < i))) (tCB (rSum K) (tCons (tVar 3) tNil)) (tC (.int 100000))))) (tAnd (tTest (tOp rNotNon (tVar 4) (tC .non))) (tTest (tOp (rI0 fun i j => V.bl (decide (j < i))) (tCB (rSum K) (tCons (L2.tSl (rSlL K) (tVar 3) (tPart (tVar 4)) tNoPart) tNil)) (tC (.int 20000)))))) tNever tNext))))))
    (tSeq (tIfS (tTest (tOp rIsNon (tVar 4) (tC .non))) (tRet (tDef (spRowOfTicks K C) E0 (tCons (tDef (spTicksOf K) E0 (tCons (tVar 3) tNil)) tNil))) tNext)
    (tSeq (tIfS (tTest (tOp rEq (tVar 4) (tCB (kLen K) (tCons (tVar 3) tNil)))) tNever tNext)
    (tRet (tDef (spRowOfLaps K C) E0 (tCons (tOp (rIxL K) (tVar 3) (tC (.int 0))) (tCons (L2.tSl (rSlL K) (tVar 3) (tPart (tC (.int 1))) (tPart (tVar 4))) (tCons (L2.tSl (rSlL K) (tVar 3) (tPart (tVar 4)) tNoPart) tNil)))))))))))
def tLrandom : TS := (tSeq (tAsg (tVar 1) (gName 2))
    (tSeq (tFor (iList K (tVar 0)) (gName 3) (tAsg (tOp (rI (fun _ j => 0 < j) fun i j => V.int (i % j)) (tOp (rI0 fun i j => V.int (i + j)) (tOp (rI CMul fun i j => V.int (i * j)) (tVar 2) (tC (.int 31))) (tCB kAbs (tCons (tVar 3) tNil))) (tC (.int 2147483647))) (gName 2)))
    (tRet (tOp rCat (tLst (tCons (tVar 2) (tCons (tC (.int 0)) tNil))) (tLc (iList K (tVar 0)) (gName 3) (tTest (tOp (rI0 fun i j => V.bl (decide (j ≤ i))) (tVar 3) (tOp (rI CPow fun i j => V.int (i ^ j.toNat)) (tC (.int 10)) (tC (.int 18))))) (tVar 3) [3])))))
def tLbelow : TS := (tSeq (tIfS (tAnd (tTest (tOp rEq (tOp (rIxL K) (tVar 0) (tC (.int 1))) (tC (.int 0)))) (tTest (tOp (rI0 fun i j => V.bl (decide (j < i))) (tCB (kLen K) (tCons (tVar 0) tNil)) (tC (.int 2))))) (tAsg (tBM K "list" rPopAt (tVar 0) (tCons (tC (.int 2)) tNil)) (gSub (tVar 0) (tC (.int 1)) rSetL)) tNext)
    (tSeq (tIfS (tTest (tOp (rI0 fun i j => V.bl (decide (j < i))) (tOp (rIxL K) (tVar 0) (tC (.int 1))) (tC (.int 0)))) (tSeq (tAsg (tOp (rI (fun _ j => 0 < j) fun i j => V.int (i % j)) (tOp (rIxL K) (tVar 0) (tC (.int 1))) (tVar 1)) (gName 2))
    (tSeq (tAsg (tOp (rI CDiv fun i j => V.int (i / j)) (tOp (rIxL K) (tVar 0) (tC (.int 1))) (tVar 1)) (gSub (tVar 0) (tC (.int 1)) rSetL))
    (tRet (tVar 2)))) tNext)
    (tSeq (tAsg (tOp (rI (fun _ j => 0 < j) fun i j => V.int (i % j)) (tOp (rI0 fun i j => V.int (i + j)) (tOp (rI CMul fun i j => V.int (i * j)) (tOp (rIxL K) (tVar 0) (tC (.int 0))) (tC (.int 48271))) (tC (.int 11))) (tC (.int 2147483647))) (gSub (tVar 0) (tC (.int 0)) rSetL))
    (tRet (tOp (rI (fun _ j => 0 < j) fun i j => V.int (i % j)) (tOp (rI CDiv fun i j => V.int (i / j)) (tOp (rIxL K) (tVar 0) (tC (.int 0))) (tC (.int 64))) (tVar 1))))))
def tLlaps : TS := (tSeq (tAsg (tOp (rIxL K) (tLst (tCons (tC (.int 3)) (tCons (tC (.int 9)) (tCons (tC (.int 60)) tNil)))) (tDef (spBelow) E0 (tCons (tVar 0) (tCons (tC (.int 3)) tNil)))) (gName 2))
    (tRet (tCB (kTuple K) (tCons (tLc (iRng1 (tCons (tOp (rI0 fun i j => V.int (i + j)) (tC (.int 1)) (tDef (spBelow) E0 (tCons (tVar 0) (tCons (tVar 1) tNil)))) tNil)) (gName 3) tYes (tOp (rI0 fun i j => V.int (i + j)) (tC (.int 1)) (tDef (spBelow) E0 (tCons (tVar 0) (tCons (tVar 2) tNil)))) [3]) tNil))))
def tLplan : TS := (tSeq (tAsg (tIf (tTest (tOp rEq (tDef (spBelow) E0 (tCons (tVar 0) (tCons (tC (.int 2)) tNil))) (tC (.int 0)))) (tTup tNil) (tDef (spLawLaps) E0 (tCons (tVar 0) (tCons (tC (.int 3)) tNil)))) (gName 2))
    (tRet (tTup (tCons (tDef (spBelow) E0 (tCons (tVar 0) (tCons (tOp (rIxL K) (tLst (tCons (tC (.int 9)) (tCons (tC (.int 60)) tNil))) (tDef (spBelow) E0 (tCons (tVar 0) (tCons (tC (.int 2)) tNil)))) tNil))) (tCons (tVar 2) (tCons (tDef (spLawLaps) E0 (tCons (tVar 0) (tCons (tVar 1) tNil))) tNil))))))
def tLrow : TS := (tSeq (tAsg (tVar 0) (gTup K 3 (gCons (gName 1) (gCons (gName 2) (gCons (gName 3) gNil)))))
    (tRet (ClX.tCMeth C (spParse K C) E0 (tC (.ref C)) (tCons (tBM K "str" (mJoin K) (tC (.str " ")) (tCons (tOp rCat (tOp rCat (tLc (iTup K (tOp (rCatA K) (tTup (tCons (tVar 1) tNil)) (tVar 2))) (gName 5) tYes (tCB kStr (tCons (tVar 5) tNil)) [5]) (tLst (tCons (tC (.str "|")) tNil))) (tLc (iTup K (tVar 3)) (gName 4) tYes (tCB kStr (tCons (tVar 4) tNil)) [4])) tNil)) tNil))))
def tLsome_tick : TS := (tRet (tOp (rIxL K) (tLst (tCons (tDef (spBelow) E0 (tCons (tVar 0) (tCons (tC (.int 300)) tNil))) (tCons (tOp (rI0 fun i j => V.int (i - j)) (tOp (rI CPow fun i j => V.int (i ^ j.toNat)) (tC (.int 10)) (tC (.int 18))) (tDef (spBelow) E0 (tCons (tVar 0) (tCons (tOp (rI CPow fun i j => V.int (i ^ j.toNat)) (tC (.int 10)) (tC (.int 6))) tNil)))) tNil))) (tDef (spBelow) E0 (tCons (tVar 0) (tCons (tC (.int 2)) tNil)))))
def tRis_endless : TS := (tRet (tOp (rNeD K) (tFld K (tVar 0) "offsets") (tTup tNil)))
def tReq : TS := (tRet (tAndV (tCB (kIsi K) (tCons (tVar 1) (tCons (tC (.ref C)) tNil))) (tOp (rEqD K) (tFld K (tVar 0) "parts") (tFld K (tVar 1) "parts"))))
end
end TkL

local macro_rules | `(tactic| walk_at "rd") => `(tactic| repeat (first
  | (with_reducible refine TkL.x_seq ?_) | ((with_reducible refine TkL.x_next ?_); dsimp only) | (with_reducible refine TkL.x_drop ?_) | ((with_reducible refine TkL.x_ret ?_); dsimp only) | ((with_reducible refine TkL.x_retN ?_); dsimp only) | (with_reducible refine TkL.x_ifS ?_)
  | (with_reducible refine TkL.x_asg ?_) | (with_reducible refine TkL.x_name ?_) | (with_reducible refine TkL.x_c ?_) | (with_reducible refine TkL.x_op ?_) | (with_reducible refine TkL.x_un ?_) | (with_reducible refine TkL.x_rI0 ?_) | (with_reducible refine TkL.x_rU ?_)
  | (with_reducible refine TkL.x_nil ?_) | (with_reducible refine TkL.x_cons ?_) | (with_reducible refine TkL.x_notV ?_) | (with_reducible refine TkL.x_andV ?_) | (with_reducible refine TkL.x_orV ?_) | (with_reducible refine TkL.x_exB ?_) | (with_reducible refine TkL.x_exI ?_)
  | (with_reducible refine TkL.x_if ?_) | (with_reducible refine TkL.x_B ?_) | (with_reducible refine TkL.x_test ?_) | (with_reducible refine TkL.x_and ?_) | (with_reducible refine TkL.x_or ?_) | (with_reducible refine TkL.x_not ?_) | (with_reducible refine TkL.x_chain ?_)
  | (with_reducible refine TkL.x_cb ?_) | (with_reducible refine TkL.x_def ?_) | (with_reducible refine TkL.x_par ?_) | (with_reducible refine TkL.x_parEx ?_) | (with_reducible refine TkL.x_par3 ?_) | (with_reducible refine TkL.x_par3Ex ?_) | (with_reducible refine TkL.x_fld ?_) | (with_reducible refine TkL.x_sfld ?_) | (with_reducible refine TkL.x_met ?_) | (with_reducible refine TkL.x_prp ?_)
  | (with_reducible refine TkL.x_bm ?_) | (with_reducible refine TkL.x_bm0 ?_) | (with_reducible refine TkL.x_sl ?_) | (with_reducible refine TkL.x_noPart ?_) | (with_reducible refine TkL.x_part ?_) | (with_reducible refine TkL.x_ins ?_) | (with_reducible refine TkL.x_mk ?_) | (with_reducible refine TkL.x_exR ?_)
  | ((with_reducible refine TkL.x_break ?_); dsimp only) | ((with_reducible refine TkL.x_cont ?_); dsimp only) | (with_reducible refine TkL.x_kint ?_) | (with_reducible refine TkL.x_kintb ?_) | (with_reducible refine TkL.x_isNonT ?_) | (with_reducible refine TkL.x_notNonT ?_)
  | (with_reducible refine TkL.x_lst0 ?_) | (with_reducible refine TkL.x_tup0 ?_)
  | ((with_reducible refine TkL.x_aug (v := ?_) ?_ ?_); rotate_left; exact rfl) | (with_reducible refine TkL.x_ipI ?_)
  | ((with_reducible refine TkL.x_var (v := ?_) ?_ ?_); rotate_left; exact rfl)))
namespace TkL
open PySem PySem.Spec PySem.Calls PyProof.Rows L2 Tk

theorem ex_of {H H' : Hp} {p : Addr} {o : HO} (h : upd H p o = H') (hp : H p = none) : Ex H H' := by subst h; exact Ex.new hp
theorem at_of {H H' : Hp} {p : Addr} {o : HO} (h : upd H p o = H') : H' p = some o := by subst h; exact upd_same
section
variable {K : PySem.W.Frag} {C : Addr} {H H' : Hp} {a dx p1 p2 p3 p4 : Addr} {r : RV} {Q : VK}
theorem RowI.ex (I : RowI K C H a r dx p1 p2 p3 p4) (e : Ex H H') : RowI K C H' a r dx p1 p2 p3 p4 := ⟨e _ _ I.ob, e.sqT I.e, e.sqT I.o, e _ _ I.m, e.sqT I.p, I.rb⟩
theorem RowAt.ex (I : RowAt K C H a r) (e : Ex H H') : RowAt K C H' a r := by
  obtain ⟨dx, p1, p2, p3, p4, I⟩ := I
  exact ⟨dx, p1, p2, p3, p4, I.ex e⟩
theorem lk_early {x y z u v w : V} : ([("early", x), ("begin", y), ("length", z), ("offsets", u), ("marks", v), ("parts", w)] : List (Str × V)).lookup (("early" : Str)) = some x := rfl
theorem lk_begin {x y z u v w : V} : ([("early", x), ("begin", y), ("length", z), ("offsets", u), ("marks", v), ("parts", w)] : List (Str × V)).lookup (("begin" : Str)) = some y := rfl
theorem lk_length {x y z u v w : V} : ([("early", x), ("begin", y), ("length", z), ("offsets", u), ("marks", v), ("parts", w)] : List (Str × V)).lookup (("length" : Str)) = some z := rfl
theorem lk_offsets {x y z u v w : V} : ([("early", x), ("begin", y), ("length", z), ("offsets", u), ("marks", v), ("parts", w)] : List (Str × V)).lookup (("offsets" : Str)) = some u := rfl
theorem lk_marks {x y z u v w : V} : ([("early", x), ("begin", y), ("length", z), ("offsets", u), ("marks", v), ("parts", w)] : List (Str × V)).lookup (("marks" : Str)) = some v := rfl
theorem lk_parts {x y z u v w : V} : ([("early", x), ("begin", y), ("length", z), ("offsets", u), ("marks", v), ("parts", w)] : List (Str × V)).lookup (("parts" : Str)) = some w := rfl
variable (T : TyF K C) (I : RowI K C H a r dx p1 p2 p3 p4)
include T I
theorem fl_early {Q : V → Prop} (h : Q (.ref p1)) : ∃ a' C' dx' fs v, V.ref a = .ref a' ∧ H a' = some (.ins C' dx' fs) ∧ Cls K C' ∧ NoAttr K C' "early" ∧ fs.lookup (("early" : Str)) = some v ∧ Q v := ⟨_, _, _, _, _, rfl, I.ob, T.cl, T.early, lk_early, h⟩
theorem fl_begin {Q : V → Prop} (h : Q (.int r.beg)) : ∃ a' C' dx' fs v, V.ref a = .ref a' ∧ H a' = some (.ins C' dx' fs) ∧ Cls K C' ∧ NoAttr K C' "begin" ∧ fs.lookup (("begin" : Str)) = some v ∧ Q v := ⟨_, _, _, _, _, rfl, I.ob, T.cl, T.begin_, lk_begin, h⟩
theorem fl_length {Q : V → Prop} (h : Q (.int r.len)) : ∃ a' C' dx' fs v, V.ref a = .ref a' ∧ H a' = some (.ins C' dx' fs) ∧ Cls K C' ∧ NoAttr K C' "length" ∧ fs.lookup (("length" : Str)) = some v ∧ Q v := ⟨_, _, _, _, _, rfl, I.ob, T.cl, T.length, lk_length, h⟩
theorem fl_offsets {Q : V → Prop} (h : Q (.ref p2)) : ∃ a' C' dx' fs v, V.ref a = .ref a' ∧ H a' = some (.ins C' dx' fs) ∧ Cls K C' ∧ NoAttr K C' "offsets" ∧ fs.lookup (("offsets" : Str)) = some v ∧ Q v := ⟨_, _, _, _, _, rfl, I.ob, T.cl, T.offsets, lk_offsets, h⟩
theorem fl_marks {Q : V → Prop} (h : Q (.ref p3)) : ∃ a' C' dx' fs v, V.ref a = .ref a' ∧ H a' = some (.ins C' dx' fs) ∧ Cls K C' ∧ NoAttr K C' "marks" ∧ fs.lookup (("marks" : Str)) = some v ∧ Q v := ⟨_, _, _, _, _, rfl, I.ob, T.cl, T.marks, lk_marks, h⟩
theorem fl_parts {Q : V → Prop} (h : Q (.ref p4)) : ∃ a' C' dx' fs v, V.ref a = .ref a' ∧ H a' = some (.ins C' dx' fs) ∧ Cls K C' ∧ NoAttr K C' "parts" ∧ fs.lookup (("parts" : Str)) = some v ∧ Q v := ⟨_, _, _, _, _, rfl, I.ob, T.cl, T.parts, lk_parts, h⟩
end
section
variable {K : PySem.W.Frag} {C : Addr} {H : Hp} {Q : VK}
theorem zI_len {l : List Int} : (zI l).length = l.length := List.length_map _
theorem zI_get {l : List Int} {i : Nat} {x : V} (h : (zI l)[i]? = some x) : ∃ n, l[i]? = some n ∧ x = .int n := by
  unfold zI at h
  rw [List.getElem?_map] at h
  cases e : l[i]? with
  | none => rw [e] at h; cases h
  | some n => rw [e] at h; exact ⟨n, rfl, (Option.some.inj h).symm⟩
theorem kisi {x t : V} {tv cv : Value} {b : Bool} (ht : TyX K H x tv) (hc : ClsV t cv) (e : PySem.W.kitOne K tv cv = some b) (h : Q (.bl b) H) : kIsi K [x, t] H Q := ⟨_, _, _, _, _, rfl, hc, ht, e, h⟩
theorem x_len {p : Addr} {ys : List V} (s : Seq K H p ys) (h : Q (.int ys.length) H) : kLen K [.ref p] H Q := ⟨p, ys, rfl, s, h⟩
theorem x_lenT {p : Addr} {ys : List Int} (s : SqT K H p (zI ys)) (h : Q (.int ys.length) H) : kLen K [.ref p] H Q := ⟨p, _, rfl, .inr s, by rw [zI_len]; exact h⟩
theorem x_lenL {p : Addr} {ys : List Int} (s : SqL K H p (zI ys)) (h : Q (.int ys.length) H) : kLen K [.ref p] H Q := ⟨p, _, rfl, .inl s, by rw [zI_len]; exact h⟩
theorem inV_zI {t : Int} {l : List Int} : inV (.int t) (zI l) = decide (t ∈ l) := by
  unfold inV zI
  rw [Bool.eq_iff_iff, decide_eq_true_iff, List.any_eq_true]
  constructor
  · rintro ⟨y, hy, e⟩
    obtain ⟨n, hn, rfl⟩ := List.mem_map.mp hy
    have : n = t := by simpa [eqV] using e
    rw [← this]; exact hn
  · intro h
    exact ⟨.int t, List.mem_map.mpr ⟨t, h, rfl⟩, by simp [eqV]⟩
theorem flat_zI {l : List Int} : (zI l).all flatV = true := by
  unfold zI
  rw [List.all_eq_true]
  intro x hx
  obtain ⟨n, _, rfl⟩ := List.mem_map.mp hx
  rfl
theorem x_inT {p : Addr} {l : List Int} {t : Int} (s : SqT K H p (zI l)) (h : Q (.bl (decide (t ∈ l))) H) : rIn K false (.int t) (.ref p) H Q := ⟨p, _, rfl, .inr s, rfl, flat_zI, by rw [if_neg Bool.false_ne_true, inV_zI]; exact h⟩
theorem x_din {ty td : TE} {σ : L2.St} {t : Int} {p : Addr} {o : List Int} (hy : ∀ P : VK, P (.int t) H → ty σ H P) (hd : ∀ P : VK, P (.ref p) H → td σ H P) (hm : Rd H p (.dK (mkD o))) (h : Q (.bl (decide (t ∈ o))) H) : tDIn ty td σ H Q :=
  hy _ (hd _ ⟨p, _, rfl, .inl ⟨_, Sum.inl t, hm, rfl, rfl⟩, by rw [mkD_has]; exact h⟩)
end
section
variable {K : PySem.W.Frag} {C : Addr}
theorem rdPis_int_in (T : TyF K C) (vs : List V) (H : Hp) (Q : VK) (E : XK) (h : spIii vs H Q E) : tPis_int_in K { nx := fun _ H' => Q .non H', rt := Q } (start ["value", "low", "high"] vs) H := by
  obtain ⟨x, lo, hi, rfl, h⟩ := h
  unfold tPis_int_in
  walk_at "rd"
  rcases h with ⟨i, rfl, h⟩ | ⟨⟨b, rfl⟩ | rfl | ⟨z, rfl⟩, h⟩
  · refine kisi (.base (.int i)) (.ty "int") T.int_int ?_
    walk_at "rd"
    refine iteT ?_
    walk_at "rd"
    refine kisi (.base (.int i)) (.ty "bool") T.int_bool ?_
    walk_at "rd"
    refine iteT ?_
    walk_at "rd"
    refine x_iteD (fun c => ?_) (fun c => ?_)
    · walk_at "rd"
      rw [decide_eq_true c, Bool.true_and] at h
      exact h
    · rw [decide_eq_false c, Bool.false_and] at h
      exact h
  · refine kisi (.base (.bl b)) (.ty "int") T.bool_int ?_
    walk_at "rd"
    refine iteT ?_
    walk_at "rd"
    refine kisi (.base (.bl b)) (.ty "bool") T.bool_bool ?_
    walk_at "rd"
    exact iteF h
  · refine kisi (.base .non) (.ty "int") T.none_int ?_
    walk_at "rd"
    exact iteF h
  · refine kisi (.base (.str z)) (.ty "int") T.str_int ?_
    walk_at "rd"
    exact iteF h
theorem rdRholds (T : TyF K C) (vs : List V) (H : Hp) (Q : VK) (E : XK) (h : spHolds K C vs H Q E) : tRholds K { nx := fun _ H' => Q .non H', rt := Q } (start ["self", "tick"] vs) H := by
  obtain ⟨a, t, r, rfl, ⟨dx, p1, p2, p3, p4, I⟩, h⟩ := h
  unfold tRholds
  walk_at "rd"
  refine fl_begin T I ?_
  walk_at "rd"
  refine x_iteD (fun c => ?_) (fun c => ?_)
  · walk_at "rd"
    refine fl_early T I ?_
    walk_at "rd"
    refine x_inT I.e ?_
    rw [RV.has_lo c] at h
    exact h
  · walk_at "rd"
    refine x_din (t := (t - r.beg) % r.len) (p := p3) (o := r.offs) (fun P q => ?_) (fun P q => ?_) (.inl I.m) ?_
    · walk_at "rd"
      refine fl_begin T I ?_
      walk_at "rd"
      refine fl_length T I ?_
      exact x_rI (by have := I.rb.c.wf.l1; show 0 < r.len; omega) q
    · walk_at "rd"
      exact fl_marks T I q
    · rw [RV.has_hi (by omega)] at h
      exact h
end
end TkL

namespace TkL
open PySem PySem.Spec PySem.Calls PyProof.Rows L2 Tk
section
variable {K : PySem.W.Frag} {C : Addr} {H : Hp} {Q : VK} {σ : L2.St} {wi : TI} {g : TG} {tt : TT} {te tl : TE} {vs : List Nat}
def onI (p : Int → Bool) : V → Bool
  | .int n => p n
  | _ => false
def mapI (f : Int → V) : V → V
  | .int n => f n
  | x => x
theorem mapInt {xs : List Int} {p : Int → Bool} {f : Int → V} : ((zI xs).filter (onI p)).map (mapI f) = (xs.filter p).map f := by
  unfold zI
  induction xs with
  | nil => rfl
  | cons a l ih =>
    have e : onI p (V.int a) = p a := rfl
    rw [List.map_cons, List.filter_cons, List.filter_cons, e]
    cases p a with
    | true => rw [if_pos rfl, if_pos rfl, List.map_cons, List.map_cons, ih]; rfl
    | false => rw [if_neg Bool.false_ne_true, if_neg Bool.false_ne_true, ih]
theorem zI_mem {l : List Int} {i : Nat} {x : V} (h : (zI l)[i]? = some x) : ∃ n, n ∈ l ∧ x = .int n := by
  obtain ⟨n, hn, e⟩ := zI_get h
  exact ⟨n, List.mem_of_getElem? hn, e⟩
theorem lcfI {J : It} {H1 : Hp} {xs : List Int} (W : Wk J H1 (zI xs)) {j : Nat} {tt : TT} {te : TE} {σ : L2.St} {Q : Addr → Hp → Prop} (p : Int → Bool) (f : Int → V) (hz : xs.length ≤ 1000000)
    (ht : ∀ n H' (Qb : Bool → Hp → Prop), n ∈ xs → Ex H1 H' → Qb (p n) H' → tt ((wipe σ [j]).set j (some (.int n))) H' Qb)
    (hv : ∀ n H' (Qv : VK), n ∈ xs → p n = true → Ex H1 H' → Qv (f n) H' → te ((wipe σ [j]).set j (some (.int n))) H' Qv)
    (hd : ∀ D H', Ex H1 H' → H1 D = none → H' D = some (.lst ((xs.filter p).map f)) → Q D H') :
    ∀ D, H1 D = none → ∃ W : Nat → Nat → Hp → Prop, (∃ m, W 0 m (upd H1 D (.lst []))) ∧ ∀ i m H, W i m H →
      (J.stop i H ∧ Q D H) ∨ (J.go i H ∧ ∃ Nx : Hp → Prop, (∀ H', Nx H' → ∃ m', m' < m ∧ W (i + 1) m' H') ∧ ∀ x H', J.yld i H x H' → gName j x (wipe σ [j]) H' fun σ2 H2 => wipe σ2 [j] = wipe σ [j] ∧ tt σ2 H2 fun b H3 =>
        if b = true then te σ2 H3 fun y H4 => ∃ acc, H4 D = some (.lst acc) ∧ acc.length < sizeLine ∧ Nx (upd H4 D (.lst (acc ++ [y]))) else Nx H3) := by
  refine lcf W (onI p) (mapI f) (by rw [zI_len]; exact hz) (fun i x H' Qb hx e q => ?_) (fun i x H' Qv hx hp e q => ?_) (fun D H' e h1 h2 => ?_)
  · obtain ⟨n, hn, rfl⟩ := zI_mem hx
    exact ht n H' Qb hn e q
  · obtain ⟨n, hn, rfl⟩ := zI_mem hx
    exact hv n H' Qv hn hp e q
  · rw [mapInt] at h2
    exact hd D H' e h1 h2
theorem x_lc (h : wi σ H fun J H1 => ∀ D, H1 D = none → ∃ W : Nat → Nat → Hp → Prop, (∃ m, W 0 m (upd H1 D (.lst []))) ∧ ∀ i m H, W i m H →
      (J.stop i H ∧ Q (.ref D) H) ∨ (J.go i H ∧ ∃ Nx : Hp → Prop, (∀ H', Nx H' → ∃ m', m' < m ∧ W (i + 1) m' H') ∧ ∀ x H', J.yld i H x H' → g x (wipe σ vs) H' fun σ2 H2 => wipe σ2 vs = wipe σ vs ∧ tt σ2 H2 fun b H3 =>
        if b = true then te σ2 H3 fun y H4 => ∃ acc, H4 D = some (.lst acc) ∧ acc.length < sizeLine ∧ Nx (upd H4 D (.lst (acc ++ [y]))) else Nx H3)) : tLc wi g tt te vs σ H Q := h
theorem x_dc {tk tv : TE} (h : wi σ H fun J H1 => ∀ D, H1 D = none → ∃ W : Nat → Nat → Hp → Prop, (∃ m, W 0 m (upd H1 D (.dK []))) ∧ ∀ i m H, W i m H →
      (J.stop i H ∧ Q (.ref D) H) ∨ (J.go i H ∧ ∃ Nx : Hp → Prop, (∀ H', Nx H' → ∃ m', m' < m ∧ W (i + 1) m' H') ∧ ∀ x H', J.yld i H x H' → g x (wipe σ vs) H' fun σ2 H2 => wipe σ2 vs = wipe σ vs ∧ tt σ2 H2 fun b H3 =>
        if b = true then tk σ2 H3 fun y H4 => tv σ2 H4 fun z H5 => ∃ kvs k, y = kV k ∧ H5 D = some (.dK kvs) ∧ kvs.length < sizeLine ∧ Nx (upd H5 D (.dK (putK kvs k z))) else Nx H3)) : tDc wi g tt tk tv vs σ H Q := h
theorem x_itup {R : It → Hp → Prop} (h : tl σ H fun x H1 => ∃ a, x = .ref a ∧ (∃ xs, SqT K H1 a xs) ∧ R (Itt K a) H1) : iTup K tl σ H R := h
theorem x_ilist {R : It → Hp → Prop} (h : tl σ H fun x H1 => ∃ a, x = .ref a ∧ (∃ xs, SqL K H1 a xs) ∧ R (Itl K a) H1) : iList K tl σ H R := h
theorem x_itA {p : Addr} {xs : List V} {P : Addr → Prop} (s : SqT K H p xs) (h : P p) : ∃ a, V.ref p = .ref a ∧ (∃ xs, SqT K H a xs) ∧ P a := ⟨p, rfl, ⟨_, s⟩, h⟩
theorem x_ilA {p : Addr} {xs : List V} {P : Addr → Prop} (s : SqL K H p xs) (h : P p) : ∃ a, V.ref p = .ref a ∧ (∃ xs, SqL K H a xs) ∧ P a := ⟨p, rfl, ⟨_, s⟩, h⟩
theorem x_yes {Q : Bool → Hp → Prop} (h : Q true H) : tYes σ H Q := h
theorem x_exIL {P : List V → Prop} {l : List V} (h : P l) : ∃ x, some (HO.lst l) = some (.lst x) ∧ P x := ⟨l, rfl, h⟩
theorem len_of_range : ∀ {l : List Int} {b c : Int}, l.Pairwise (· < ·) → (∀ x ∈ l, b ≤ x ∧ x < c) → b ≤ c → (l.length : Int) ≤ c - b
  | [], b, c, _, _, h => by simp; omega
  | a :: l, b, c, hp, hr, h => by
    have ha := hr a List.mem_cons_self
    have := len_of_range (b := a + 1) (c := c) (List.pairwise_cons.mp hp).2 (fun x hx => ⟨by have := (List.pairwise_cons.mp hp).1 x hx; omega, (hr x (List.mem_cons_of_mem _ hx)).2⟩) (by omega)
    rw [List.length_cons]
    omega
theorem _root_.Tk.RB.el {r : RV} (h : RB r) : (r.early.length : Int) ≤ r.beg := by have := len_of_range h.c.wf.es h.c.wf.er h.c.wf.b0; omega
theorem _root_.Tk.RB.ol {r : RV} (h : RB r) : (r.offs.length : Int) ≤ r.len := by have := len_of_range h.c.wf.os h.c.wf.ow (by have := h.c.wf.l1; omega); omega
theorem _root_.Tk.RB.el2 {r : RV} (h : RB r) : r.early.length ≤ 200000 := by have := h.el; have := h.bb; omega
theorem _root_.Tk.RB.ol2 {r : RV} (h : RB r) : r.offs.length ≤ 20000 := by have := h.ol; have := h.lb; omega
theorem cnt_len {l : List Int} {t : Int} : ((l.filter fun x => decide (x ≤ t)).map V.int).length = cntLe l t := by rw [List.length_map]; rfl
end
section
variable {K : PySem.W.Frag} {C : Addr}
theorem rdRcount (T : TyF K C) (vs : List V) (H : Hp) (Q : VK) (E : XK) (h : spCount K C vs H Q E) : tRcount K { nx := fun _ H' => Q .non H', rt := Q } (start ["self", "tick", "rounds", "rest", "one"] vs) H := by
  obtain ⟨a, t, r, rfl, ⟨dx, p1, p2, p3, p4, I⟩, h⟩ := h
  unfold tRcount
  walk_at "rd"
  refine fl_begin T I ?_
  walk_at "rd"
  refine x_iteD (fun c => ?_) (fun c => ?_)
  · walk_at "rd"
    refine x_lc (x_itup ?_)
    walk_at "rd"
    refine fl_early T I ?_
    refine x_itA I.e ?_
    refine lcfI (Wk.tup I.e) (fun n => decide (n ≤ t)) V.int (by have := I.rb.el2; omega) (fun n H' Qb _ e q => ?_) (fun n H' Qv _ _ e q => ?_) (fun D H' e hD hl => ?_)
    · walk_at "rd"; exact q
    · walk_at "rd"; exact q
    · walk_at "rd"
      refine x_len (.inl (lOf hl)) ?_
      rw [cnt_len]
      have h2 := h H' e
      unfold RV.count at h2
      rw [if_pos c] at h2
      exact h2
  · walk_at "rd"
    refine fl_begin T I ?_
    walk_at "rd"
    refine fl_length T I ?_
    walk_at "rd"
    refine x_kdiv ⟨by have := I.rb.c.wf.l1; omega, by have := I.rb.lb; omega⟩ (fun p H1 e1 hp h1 => ?_)
    refine x_gtup2 (tOf h1) ?_
    have I1 := I.ex e1
    walk_at "rd"
    refine fl_early T I1 ?_
    walk_at "rd"
    refine x_lenT I1.e ?_
    walk_at "rd"
    refine fl_offsets T I1 ?_
    walk_at "rd"
    refine x_lenT I1.o ?_
    refine x_rI (.inr (by have := I.rb.ol2; omega)) ?_
    walk_at "rd"
    refine x_lc (x_itup ?_)
    walk_at "rd"
    refine fl_offsets T I1 ?_
    refine x_itA I1.o ?_
    refine lcfI (Wk.tup I1.o) (fun n => decide (n ≤ (t - r.beg) % r.len)) V.int (by have := I.rb.ol2; omega) (fun n H' Qb _ e q => ?_) (fun n H' Qv _ _ e q => ?_) (fun D H' e hD hl => ?_)
    · walk_at "rd"; exact q
    · walk_at "rd"; exact q
    · walk_at "rd"
      refine x_len (.inl (lOf hl)) ?_
      rw [cnt_len]
      have h2 := h H' (e1.trans e)
      unfold RV.count at h2
      rw [if_neg c] at h2
      walk_at "rd"
      exact h2
theorem rdRcall (T : TyF K C) (vs : List V) (H : Hp) (Q : VK) (E : XK) (h : spCall K C vs H Q E) : tRcall K C { nx := fun _ H' => Q .non H', rt := Q } (start ["self", "tick"] vs) H := by
  obtain ⟨a, t, r, rfl, ⟨dx, p1, p2, p3, p4, I⟩, h0, h1, h⟩ := h
  unfold tRcall
  walk_at "rd"
  refine ⟨_, _, _, rfl, .inl ⟨t, rfl, ?_⟩⟩
  rw [decide_eq_true h0, decide_eq_true h1]
  walk_at "rd"
  refine iteF ?_
  walk_at "rd"
  refine ⟨_, _, _, rfl, I.ob, rfl, ?_⟩
  walk_at "rd"
  exact ⟨a, t, r, rfl, ⟨dx, p1, p2, p3, p4, I⟩, h⟩
theorem rdRcontains (T : TyF K C) (vs : List V) (H : Hp) (Q : VK) (E : XK) (h : spContains K C vs H Q E) : tRcontains K C { nx := fun _ H' => Q .non H', rt := Q } (start ["self", "tick"] vs) H := by
  obtain ⟨a, x, r, rfl, ⟨dx, p1, p2, p3, p4, I⟩, h⟩ := h
  unfold tRcontains
  walk_at "rd"
  rcases h with ⟨t, rfl, h⟩ | ⟨hx, h⟩
  · refine ⟨_, _, _, rfl, .inl ⟨t, rfl, ?_⟩⟩
    walk_at "rd"
    by_cases c : (decide (0 ≤ t) && decide (t ≤ 1000000000000000000)) = true
    · rw [c] at h ⊢
      refine iteT ?_
      walk_at "rd"
      refine ⟨_, _, _, rfl, I.ob, rfl, ?_⟩
      walk_at "rd"
      exact ⟨a, t, r, rfl, ⟨dx, p1, p2, p3, p4, I⟩, h⟩
    · rw [Bool.not_eq_true] at c
      rw [c] at h ⊢
      exact iteF h
  · refine ⟨_, _, _, rfl, .inr ⟨hx, ?_⟩⟩
    walk_at "rd"
    exact iteF h
theorem rdRbool (T : TyF K C) (vs : List V) (H : Hp) (Q : VK) (E : XK) (h : spBool K C vs H Q E) : tRbool K { nx := fun _ H' => Q .non H', rt := Q } (start ["self"] vs) H := by
  obtain ⟨a, r, rfl, ⟨dx, p1, p2, p3, p4, I⟩, h⟩ := h
  unfold tRbool
  walk_at "rd"
  refine fl_early T I ?_
  walk_at "rd"
  refine x_lenT I.e ?_
  walk_at "rd"
  refine fl_offsets T I ?_
  walk_at "rd"
  refine x_lenT I.o ?_
  walk_at "rd"
  exact h
end
end TkL

namespace TkL
open PySem PySem.Spec PySem.Calls PyProof.Rows L2 Tk
section
variable {K : PySem.W.Frag} {C : Addr} {H : Hp} {Q : VK} {σ : L2.St}
theorem lay_int : ∀ l : List Int, PyData.canLayAll0 (l.map PyData.int) = true
  | [] => rfl
  | a :: l => by show (true && PyData.canLayAll0 (l.map PyData.int)) = true; rw [lay_int l]; rfl
theorem dep_int : ∀ l : List Int, PyData.depthAll (l.map PyData.int) = 0
  | [] => rfl
  | a :: l => by show max 0 (PyData.depthAll (l.map PyData.int)) = 0; rw [dep_int l]; rfl
theorem eqv_int : ∀ l m : List Int, PyData.eqvAll (l.map PyData.int) (m.map PyData.int) = decide (l = m)
  | [], [] => rfl
  | [], _ :: _ => rfl
  | _ :: _, [] => rfl
  | a :: l, b :: m => by
    show ((a == b) && PyData.eqvAll (l.map PyData.int) (m.map PyData.int)) = _
    rw [eqv_int l m, Bool.eq_iff_iff]
    simp
theorem shp_tup (l : List Int) : SeqAt.shaped (.tuple (l.map PyData.int)) = true := by
  have h1 : PyData.canLay0 (.tuple (l.map PyData.int)) = true := lay_int l
  have h2 : PyData.depth (.tuple (l.map PyData.int)) = 1 := by show PyData.depthAll (l.map PyData.int) + 1 = 1; rw [dep_int l]
  unfold SeqAt.shaped
  rw [h1, h2]
  rfl
theorem shp_parts (l m : List Int) (a b : Int) : SeqAt.shaped (.tuple [.tuple (l.map PyData.int), .int a, .int b, .tuple (m.map PyData.int)]) = true := by
  have h1 : PyData.canLay0 (.tuple [.tuple (l.map PyData.int), .int a, .int b, .tuple (m.map PyData.int)]) = true := by
    show (PyData.canLayAll0 (l.map PyData.int) && (true && (true && (PyData.canLayAll0 (m.map PyData.int) && true)))) = true
    rw [lay_int l, lay_int m]; rfl
  have h2 : PyData.depth (.tuple [.tuple (l.map PyData.int), .int a, .int b, .tuple (m.map PyData.int)]) = 2 := by
    show max (PyData.depthAll (l.map PyData.int) + 1) (max 0 (max 0 (max (PyData.depthAll (m.map PyData.int) + 1) 0))) + 1 = 2
    rw [dep_int l, dep_int m]; rfl
  unfold SeqAt.shaped
  rw [h1, h2]
  rfl
theorem eqv_parts (l m l' m' : List Int) (a b a' b' : Int) : PyData.eqv (.tuple [.tuple (l.map PyData.int), .int a, .int b, .tuple (m.map PyData.int)]) (.tuple [.tuple (l'.map PyData.int), .int a', .int b', .tuple (m'.map PyData.int)]) = (decide (l = l') && (decide (a = a') && (decide (b = b') && decide (m = m')))) := by
  show (PyData.eqvAll (l.map PyData.int) (l'.map PyData.int) && ((a == a') && ((b == b') && (PyData.eqvAll (m.map PyData.int) (m'.map PyData.int) && true)))) = _
  rw [eqv_int, eqv_int, Bool.eq_iff_iff]
  simp
theorem dp_zI : ∀ l : List Int, DpAll K H (zI l) (l.map PyData.int)
  | [] => .nil
  | a :: l => .cons (.int a) (dp_zI l)
theorem dp_tup {p : Addr} {l : List Int} (s : SqT K H p (zI l)) : Dp K H (.ref p) (.tuple (l.map PyData.int)) := .tup s (dp_zI l)
theorem x_eqT {p q : Addr} {l m : List Int} (s : SqT K H p (zI l)) (t : SqT K H q (zI m)) (h : Q (.bl (decide (l = m))) H) : rEqD K (.ref p) (.ref q) H Q :=
  ⟨_, _, dp_tup s, dp_tup t, shp_tup l, shp_tup m, by show Q (.bl (PyData.eqvAll (l.map PyData.int) (m.map PyData.int))) H; rw [eqv_int]; exact h⟩
theorem x_neT {p q : Addr} {l m : List Int} (s : SqT K H p (zI l)) (t : SqT K H q (zI m)) (h : Q (.bl (!decide (l = m))) H) : rNeD K (.ref p) (.ref q) H Q :=
  ⟨_, _, dp_tup s, dp_tup t, shp_tup l, shp_tup m, by show Q (.bl (!PyData.eqvAll (l.map PyData.int) (m.map PyData.int))) H; rw [eqv_int]; exact h⟩
theorem atI_zI {l : List Int} {n : Int} (h0 : 0 ≤ n) (h1 : n < l.length) : atI (zI l) n = some (.int (l.getD n.toNat 0)) := by
  unfold atI ixN
  rw [zI_len, if_pos h0, if_pos h1]
  show (zI l)[n.toNat]? = _
  unfold zI
  rw [List.getElem?_map]
  have hn : n.toNat < l.length := by omega
  rw [List.getD_eq_getElem?_getD, List.getElem?_eq_getElem hn]
  rfl
theorem atI_last {l : List Int} {x : Int} : atI (zI (l ++ [x])) (-1) = some (.int x) := by
  unfold atI ixN
  rw [zI_len, if_neg (by omega), List.length_append, List.length_singleton, if_pos (by omega)]
  have e : (-1 + ((l.length + 1 : Nat) : Int)).toNat = l.length := by omega
  show (zI (l ++ [x]))[_]? = _
  rw [e]
  unfold zI
  rw [List.map_append, List.getElem?_append_right (by simp)]
  simp
end
section
variable {K : PySem.W.Frag} {C : Addr}
theorem rdRitem (T : TyF K C) (vs : List V) (H : Hp) (Q : VK) (E : XK) (h : spItem K C vs H Q E) : tRitem K { nx := fun _ H' => Q .non H', rt := Q } (start ["self", "number", "rounds", "rest"] vs) H := by
  obtain ⟨a, n, r, rfl, ⟨dx, p1, p2, p3, p4, I⟩, h0, h1, hr, h⟩ := h
  unfold tRitem
  walk_at "rd"
  refine ⟨_, _, _, rfl, .inl ⟨n, rfl, ?_⟩⟩
  rw [decide_eq_true h0, decide_eq_true h1]
  walk_at "rd"
  refine iteF ?_
  walk_at "rd"
  refine fl_early T I ?_
  walk_at "rd"
  refine x_lenT I.e ?_
  walk_at "rd"
  refine x_iteD (fun c => ?_) (fun c => ?_)
  · walk_at "rd"
    refine fl_early T I ?_
    walk_at "rd"
    refine x_ixT I.e (atI_zI h0 c) ?_
    have h2 := h H (Ex.refl H)
    unfold RV.nth at h2
    rw [if_pos c] at h2
    exact h2
  · walk_at "rd"
    refine fl_offsets T I ?_
    walk_at "rd"
    intro p H1 e1 hp ht
    have I1 := I.ex e1
    have ho : r.offs ≠ [] := hr.elim (fun z => absurd z c) id
    have hol : 0 < r.offs.length := List.length_pos_iff.mpr ho
    refine x_eqT (l := r.offs) (m := []) I1.o (tOf ht) ?_
    rw [decide_eq_false ho]
    walk_at "rd"
    refine iteF ?_
    walk_at "rd"
    refine fl_early T I1 ?_
    walk_at "rd"
    refine x_lenT I1.e ?_
    walk_at "rd"
    refine fl_offsets T I1 ?_
    walk_at "rd"
    refine x_lenT I1.o ?_
    walk_at "rd"
    refine x_kdiv ⟨by omega, by have := I.rb.ol2; omega⟩ (fun p H2 e2 hp h2 => ?_)
    refine x_gtup2 (tOf h2) ?_
    have I2 := I1.ex e2
    walk_at "rd"
    refine fl_begin T I2 ?_
    walk_at "rd"
    refine fl_length T I2 ?_
    refine x_rI (.inr (by have := I.rb.lb; have := I.rb.c.wf.l1; omega)) ?_
    walk_at "rd"
    refine fl_offsets T I2 ?_
    walk_at "rd"
    refine x_ixT I2.o (atI_zI (Int.emod_nonneg _ (by omega)) (Int.emod_lt_of_pos _ (by omega))) ?_
    walk_at "rd"
    have h3 := h H2 (e1.trans e2)
    unfold RV.nth at h3
    rw [if_neg c] at h3
    exact h3
theorem rdRis_endless (T : TyF K C) (vs : List V) (H : Hp) (Q : VK) (E : XK) (h : spEndless K C vs H Q E) : tRis_endless K { nx := fun _ H' => Q .non H', rt := Q } (start ["self"] vs) H := by
  obtain ⟨a, r, rfl, ⟨dx, p1, p2, p3, p4, I⟩, h⟩ := h
  unfold tRis_endless
  walk_at "rd"
  refine fl_offsets T I ?_
  walk_at "rd"
  intro p H1 e1 hp ht
  refine x_neT (l := r.offs) (m := []) (I.ex e1).o (tOf ht) ?_
  have h3 := h H1 e1
  have e : decide (r.offs ≠ []) = !decide (r.offs = []) := by cases r.offs <;> rfl
  rw [e] at h3
  exact h3
theorem rdRrepetition (T : TyF K C) (vs : List V) (H : Hp) (Q : VK) (E : XK) (h : spRep K C vs H Q E) : tRrepetition K { nx := fun _ H' => Q .non H', rt := Q } (start ["self"] vs) H := by
  obtain ⟨a, r, rfl, ⟨dx, p1, p2, p3, p4, I⟩, h⟩ := h
  unfold tRrepetition
  walk_at "rd"
  refine x_tup ?_
  walk_at "rd"
  refine fl_begin T I ?_
  walk_at "rd"
  refine fl_length T I ?_
  walk_at "rd"
  refine fl_offsets T I ?_
  walk_at "rd"
  refine x_lenT I.o ?_
  walk_at "rd"
  exact ⟨by show 3 ≤ sizeLine; decide, x_new fun p H' e hp ht => h H' p e ht⟩
theorem rdReq (T : TyF K C) (vs : List V) (H : Hp) (Q : VK) (E : XK) (h : spEq K C vs H Q E) : tReq K C { nx := fun _ H' => Q .non H', rt := Q } (start ["self", "other"] vs) H := by
  unfold tReq
  obtain ⟨a, b, r, s, rfl, ⟨dx, p1, p2, p3, p4, I⟩, ⟨dy, q1, q2, q3, q4, J⟩, h⟩ := h
  walk_at "rd"
  refine kisi (T.insX _ _ _ _ J.ob) (.own C) T.row_row ?_
  walk_at "rd"
  refine iteT ?_
  walk_at "rd"
  refine fl_parts T I ?_
  walk_at "rd"
  refine fl_parts T J ?_
  refine ⟨.tuple [.tuple (r.early.map PyData.int), .int r.beg, .int r.len, .tuple (r.offs.map PyData.int)], .tuple [.tuple (s.early.map PyData.int), .int s.beg, .int s.len, .tuple (s.offs.map PyData.int)], ?_, ?_, shp_parts _ _ _ _, shp_parts _ _ _ _, ?_⟩
  · exact .tup I.p (.cons (dp_tup I.e) (.cons (.int _) (.cons (.int _) (.cons (dp_tup I.o) .nil))))
  · exact .tup J.p (.cons (dp_tup J.e) (.cons (.int _) (.cons (.int _) (.cons (dp_tup J.o) .nil))))
  · rw [eqv_parts]
    have e : (decide (r.early = s.early) && (decide (r.beg = s.beg) && (decide (r.len = s.len) && decide (r.offs = s.offs)))) = decide (r = s) := by
      rw [Bool.eq_iff_iff]
      simp only [Bool.and_eq_true, decide_eq_true_iff]
      constructor
      · rintro ⟨h1, h2, h3, h4⟩; exact RV.ext' h1 h2 h3 h4
      · rintro rfl; exact ⟨rfl, rfl, rfl, rfl⟩
    rw [e]
    exact h
end
end TkL

namespace Tk
theorem diffs_len : ∀ l : List Int, (diffs l).length = l.length - 1
  | [] => rfl
  | [_] => rfl
  | a :: b :: l => by
    have := diffs_len (b :: l)
    show (diffs (b :: l)).length + 1 = _
    rw [this]; rfl
theorem diffs_get : ∀ {l : List Int} {i : Nat}, i + 1 < l.length → (diffs l)[i]? = some (l.getD (i + 1) 0 - l.getD i 0)
  | [], i, h => by simp at h
  | [_], i, h => by simp at h
  | a :: b :: l, 0, h => rfl
  | a :: b :: l, i + 1, h => by
    have := diffs_get (l := b :: l) (i := i) (by simpa using h)
    show (diffs (b :: l))[i]? = _
    rw [this]; rfl
theorem diffs_range (l : List Int) : diffs l = (List.range (l.length - 1)).map fun i => l.getD (i + 1) 0 - l.getD i 0 := by
  apply List.ext_getElem?
  intro i
  by_cases h : i + 1 < l.length
  · rw [diffs_get h, List.getElem?_map, List.getElem?_range (by omega)]; rfl
  · rw [List.getElem?_eq_none (by rw [diffs_len]; omega), List.getElem?_eq_none (by simp; omega)]
end Tk
namespace TkL
open PySem PySem.Spec PySem.Calls PyProof.Rows L2 Tk
section
variable {K : PySem.W.Frag} {C : Addr} {H : Hp} {Q : VK} {σ : L2.St}
theorem zI_take {l : List Int} {i : Nat} : zI (l.take i) = (zI l).take i := by unfold zI; rw [List.map_take]
theorem zI_snoc {l : List Int} {x : Int} : zI l ++ [V.int x] = zI (l ++ [x]) := by unfold zI; simp
theorem zI_app {l m : List Int} : zI l ++ zI m = zI (l ++ m) := by unfold zI; simp
theorem x_app {L : Addr} {l : List Int} {x : Int} (hl : H L = some (.lst (zI l))) (hz : l.length < 1000000) (h : Q .non (upd H L (.lst (zI (l ++ [x]))))) : tyV K "list" (.ref L) H ∧ (rAppend (.ref L) [.int x] H Q) := by
  refine ⟨.inl ⟨rfl, _, lOf hl⟩, L, _, _, rfl, rfl, hl, sz_lt (by rw [zI_len]; exact hz), ?_⟩
  rw [zI_snoc]; exact h
theorem x_ty {L : Addr} {l : List V} {P : Prop} (hl : H L = some (.lst l)) (h : P) : tyV K "list" (.ref L) H ∧ P := ⟨.inl ⟨rfl, _, lOf hl⟩, h⟩
theorem x_appR {L : Addr} {l : List Int} {x : Int} (hl : H L = some (.lst (zI l))) (hz : l.length < 1000000) (h : Q .non (upd H L (.lst (zI (l ++ [x]))))) : rAppend (.ref L) [.int x] H Q := by
  refine ⟨L, _, _, rfl, rfl, hl, sz_lt (by rw [zI_len]; exact hz), ?_⟩
  rw [zI_snoc]; exact h
theorem x_tupL {L : Addr} {l : List V} (hl : H L = some (.lst l)) (h : ∀ p H', Ex H H' → H p = none → H' p = some (.tup l) → Q (.ref p) H') : kTuple K [.ref L] H Q := ⟨L, l, rfl, .inl ⟨lOf hl, x_new h⟩⟩
theorem x_listT {p : Addr} {l : List V} (s : Seq K H p l) (h : ∀ q H', Ex H H' → H q = none → H' q = some (.lst l) → Q (.ref q) H') : kList K [.ref p] H Q := ⟨p, l, rfl, s, x_new h⟩
theorem x_enT {A : TA} {R : It → Hp → Prop} (h : A σ H fun vs H1 => ∃ a xs, vs = [.ref a] ∧ ((SqL K H1 a xs ∧ R (Ite K a) H1) ∨ (SqT K H1 a xs ∧ R (IteT K a) H1))) : iEnumA K A σ H R := h
theorem exnone {H H' : Hp} {p : Addr} (e : Ex H H') (h : H' p = none) : H p = none := e.back h
theorem take_next {l : List Int} {i : Nat} {x : Int} (h : l[i]? = some x) : l.take i ++ [x] = l.take (i + 1) := (take_succ_of h).symm
end
section
variable {K : PySem.W.Frag} {C : Addr}
theorem rdRlaps (T : TyF K C) (vs : List V) (H : Hp) (Q : VK) (E : XK) (h : spLaps K C vs H Q E) : tRlaps K { nx := fun _ H' => Q .non H', rt := Q } (start ["self", "found", "place", "offset", "is_last"] vs) H := by
  obtain ⟨a, r, rfl, ⟨dx, p1, p2, p3, p4, I⟩, h⟩ := h
  unfold tRlaps
  walk_at "rd"
  intro L H1 e1 hL hl1
  have I1 := I.ex e1
  walk_at "rd"
  refine x_for (x_enT ?_)
  walk_at "rd"
  refine fl_offsets T I1 ?_
  walk_at "rd"
  refine ⟨_, _, rfl, .inr ⟨I1.o, ?_⟩⟩
  have hN : r.laps.length = r.offs.length := by
    unfold RV.laps
    rw [diffs_len, List.length_append, List.length_map, List.length_take]
    omega
  refine for_enT I.o (fun i σ H' => ∃ u v w, σ = [some (.ref a), some (.ref L), u, v, w] ∧ Ex H H' ∧ H' L = some (.lst (zI (r.laps.take i)))) ⟨_, _, _, rfl, e1, hl1⟩ (fun i σ H' ⟨_, _, _, _, e, _⟩ => e) ?_ ?_
  · rintro i x σ H2 H3 hx ⟨u, v, w, rfl, e2, hl⟩ e3
    obtain ⟨n, hn, rfl⟩ := zI_get hx
    have hi := lt_of_get hn
    have e23 := e2.trans e3
    have I3 := I.ex e23
    have hl3 := e3 _ _ hl
    have hd : r.laps[i]? = some ((if i + 1 = r.offs.length then r.offs.getD 0 0 + r.len else r.offs.getD (i + 1) 0) - n) := by
      unfold RV.laps
      have ho : r.offs.take 1 = [r.offs.getD 0 0] := by cases hh : r.offs with
        | nil => rw [hh] at hi; simp at hi
        | cons b l => rfl
      rw [ho, List.map_singleton, diffs_get (by rw [List.length_append, List.length_singleton]; omega)]
      simp only [List.getD_eq_getElem?_getD]
      rw [List.getElem?_append_left hi, hn]
      by_cases c : i + 1 = r.offs.length
      · rw [if_pos c, c, List.getElem?_append_right (Nat.le_refl _)]
        simp
      · rw [if_neg c, List.getElem?_append_left (by omega)]
        simp
    have fin : ∀ z, z = (if i + 1 = r.offs.length then r.offs.getD 0 0 + r.len else r.offs.getD (i + 1) 0) - n → Ex H (upd H3 L (.lst (zI (r.laps.take i ++ [z])))) ∧ (upd H3 L (.lst (zI (r.laps.take i ++ [z])))) L = some (.lst (zI (r.laps.take (i + 1)))) := fun z hz => by
      subst hz
      exact ⟨e23.mut hL, by rw [upd_same, take_next hd]⟩
    walk_at "rd"
    refine fl_offsets T I3 ?_
    walk_at "rd"
    refine x_lenT I3.o ?_
    refine x_rEq rfl ?_
    walk_at "rd"
    refine x_ty hl3 ?_
    walk_at "rd"
    by_cases c : i + 1 = r.offs.length
    · have e : decide (V.int ((i : Int) + 1) = V.int r.offs.length) = true := decide_eq_true (by rw [← c]; rfl)
      rw [e]
      refine iteT ?_
      walk_at "rd"
      refine fl_offsets T I3 ?_
      walk_at "rd"
      refine x_ixT I3.o (atI_zI (by omega) (by omega)) ?_
      walk_at "rd"
      refine fl_length T I3 ?_
      walk_at "rd"
      refine x_appR hl3 (by rw [List.length_take]; have := I.rb.ol2; omega) ?_
      exact ⟨_, _, _, rfl, fin _ (by rw [if_pos c]; rfl)⟩
    · have e : decide (V.int ((i : Int) + 1) = V.int r.offs.length) = false := decide_eq_false fun z => c (by have := V.int.inj z; omega)
      rw [e]
      refine iteF ?_
      walk_at "rd"
      refine fl_offsets T I3 ?_
      walk_at "rd"
      refine x_ixT I3.o (atI_zI (by omega) (by omega)) ?_
      walk_at "rd"
      refine x_appR hl3 (by rw [List.length_take]; have := I.rb.ol2; omega) ?_
      exact ⟨_, _, _, rfl, fin _ (by rw [if_neg c]; rfl)⟩
  · rintro σ H2 ⟨u, v, w, rfl, e2, hl⟩
    walk_at "rd"
    rw [zI_len, ← hN, List.take_length] at hl
    exact x_tupL hl fun p H' e hp ht => h H' p (e2.trans e) ht
theorem rdRfirst_laps (T : TyF K C) (vs : List V) (H : Hp) (Q : VK) (E : XK) (h : spFlaps K C vs H Q E) : tRfirst_laps K { nx := fun _ H' => Q .non H', rt := Q } (start ["self", "ticks", "place"] vs) H := by
  obtain ⟨a, r, rfl, ⟨dx, p1, p2, p3, p4, I⟩, h⟩ := h
  unfold tRfirst_laps
  walk_at "rd"
  refine fl_early T I ?_
  walk_at "rd"
  refine x_listT (.inr I.e) fun L H1 e1 hL hl1 => ?_
  have I1 := I.ex e1
  walk_at "rd"
  refine fl_offsets T I1 ?_
  walk_at "rd"
  intro p H2 e2 hp ht
  have I2 := I1.ex e2
  have hl2 := e2 _ _ hl1
  refine x_neT (l := r.offs) (m := []) I2.o (tOf ht) ?_
  walk_at "rd"
  have rest : ∀ (ts : List Int) (H3 : Hp) (u : Option V), Ex H H3 → H3 L = some (.lst (zI ts)) → r.flaps = diffs ts → ts.length ≤ 300000 → tRet (tCB (kTuple K) (tCons (tLc (iRng1 (tCons (tOp (rI0 fun i j => V.int (i - j)) (tCB (kLen K) (tCons (tVar 1) tNil)) (tC (.int 1))) tNil)) (gName 2) tYes (tOp (rI0 fun i j => V.int (i - j)) (tOp (rIxL K) (tVar 1) (tOp (rI0 fun i j => V.int (i + j)) (tVar 2) (tC (.int 1)))) (tOp (rIxL K) (tVar 1) (tVar 2))) [2]) tNil)) { nx := fun x H' => Q V.non H', rt := Q } [some (.ref a), some (.ref L), u] H3 := fun ts H3 u e3 hl3 hf hz => by
    walk_at "rd"
    refine x_lc ?_
    unfold iRng1
    walk_at "rd"
    refine x_lenL (lOf hl3) ?_
    walk_at "rd"
    refine ⟨_, rfl, by omega, by omega, ?_⟩
    have en : ((ts.length : Int) - 1).toNat = ts.length - 1 := by omega
    rw [en]
    refine lcf (Wk.rng (lo := 0)) (fun _ => true) (fun x => match x with | .int i => .int (ts.getD (i.toNat + 1) 0 - ts.getD i.toNat 0) | x => x) (by rw [rngV_length]; omega) (fun i x H4 Qb hx e q => ?_) (fun i x H4 Qv hx _ e q => ?_) (fun D H4 e hD hl => ?_)
    · exact q
    · have hi := lt_of_get hx
      rw [rngV_length] at hi
      rw [rngV_get hi] at hx
      cases hx
      have hl4 := e _ _ hl3
      walk_at "rd"
      refine x_ixL (lOf hl4) (atI_zI (by omega) (by omega)) ?_
      walk_at "rd"
      refine x_ixL (lOf hl4) (atI_zI (by omega) (by omega)) ?_
      walk_at "rd"
      have e5 : ((0 : Int) + (i : Int) + 1).toNat = ((0 : Int) + (i : Int)).toNat + 1 := by omega
      rw [e5]
      exact q
    · walk_at "rd"
      refine x_tupL hl fun p H5 e5 hp ht => h H5 p (e3.trans (e.trans e5)) ?_
      rw [ht, hf, diffs_range]
      congr 2
      unfold rngV zI
      rw [List.filter_eq_self.mpr (fun _ _ => rfl), List.map_map, List.map_map]
      apply List.map_congr_left
      intro i _
      show V.int _ = V.int _
      have e6 : ((0 : Int) + (i : Int)).toNat = i := by omega
      rw [e6]
  by_cases c : r.offs = []
  · rw [decide_eq_true c]
    refine iteF ?_
    walk_at "rd"
    refine rest r.early H2 none (e1.trans e2) hl2 ?_ (by have := I.rb.el2; omega)
    unfold RV.flaps
    rw [c]
    simp
  · rw [decide_eq_false c]
    refine iteT ?_
    walk_at "rd"
    refine x_ty hl2 ?_
    walk_at "rd"
    refine fl_begin T I2 ?_
    walk_at "rd"
    refine fl_offsets T I2 ?_
    walk_at "rd"
    have hol : 0 < r.offs.length := List.length_pos_iff.mpr c
    refine x_ixT I2.o (atI_zI (by omega) (by omega)) ?_
    walk_at "rd"
    refine x_appR hl2 (by have := I.rb.el2; omega) ?_
    refine rest (r.early ++ [r.beg + r.offs.getD 0 0]) _ none ((e1.trans e2).mut hL) upd_same ?_ (by rw [List.length_append]; have := I.rb.el2; simp; omega)
    unfold RV.flaps
    have ho : r.offs.take 1 = [r.offs.getD 0 0] := by
      cases hh : r.offs with
      | nil => exact absurd hh c
      | cons b l => rfl
    rw [ho]
    rfl
end
end TkL

namespace Tk
theorem tks_ne {a : Int} {l : List Int} : tks a l ≠ [] := by cases l <;> simp [tks]
theorem tks_len : ∀ {a : Int} {l : List Int}, (tks a l).length = l.length + 1
  | _, [] => rfl
  | a, b :: l => by show (tks (a + b) l).length + 1 = _; rw [tks_len]; rfl
theorem tks_snoc : ∀ {a : Int} {l : List Int} {x : Int}, tks a (l ++ [x]) = tks a l ++ [a + l.sum + x]
  | a, [], x => by show [a, a + x] = [a, a + 0 + x]; rw [Int.add_zero]
  | a, b :: l, x => by
    show a :: tks (a + b) (l ++ [x]) = a :: (tks (a + b) l ++ [a + (b :: l).sum + x])
    rw [tks_snoc, List.sum_cons, Int.add_assoc a b]
theorem tks_split : ∀ {a : Int} {l : List Int}, tks a l = (tks a l).dropLast ++ [a + l.sum]
  | a, [] => by show [a] = [] ++ [a + 0]; simp
  | a, b :: l => by
    have h := tks_split (a := a + b) (l := l)
    have hne : tks (a + b) l ≠ [] := tks_ne
    show a :: tks (a + b) l = (a :: tks (a + b) l).dropLast ++ [a + (b :: l).sum]
    rw [List.dropLast_cons_of_ne_nil hne, List.sum_cons, ← Int.add_assoc, List.cons_append, ← h]
theorem tks_range : ∀ {a : Int} {l : List Int}, (∀ x ∈ l, 1 ≤ x) → ∀ y ∈ tks a l, a ≤ y ∧ y ≤ a + l.sum
  | a, [], _, y, hy => by
    have : y = a := by simpa [tks] using hy
    subst this; simp
  | a, b :: l, h, y, hy => by
    have hb := h b List.mem_cons_self
    have hs : 0 ≤ l.sum := by
      have hh : ∀ x ∈ l, 1 ≤ x := fun x hx => h x (List.mem_cons_of_mem _ hx)
      clear hy h
      induction l with
      | nil => simp
      | cons c l ih => rw [List.sum_cons]; have := hh c List.mem_cons_self; have := ih (fun x hx => hh x (List.mem_cons_of_mem _ hx)); omega
    rw [List.sum_cons]
    rcases List.mem_cons.mp hy with e | hy
    · subst e; omega
    · have := tks_range (fun x hx => h x (List.mem_cons_of_mem _ hx)) y hy
      omega
theorem tks_pair : ∀ {a : Int} {l : List Int}, (∀ x ∈ l, 1 ≤ x) → (tks a l).Pairwise (· < ·)
  | a, [], _ => List.pairwise_singleton _ _
  | a, b :: l, h => by
    refine List.pairwise_cons.mpr ⟨fun y hy => ?_, tks_pair fun x hx => h x (List.mem_cons_of_mem _ hx)⟩
    have := (tks_range (fun x hx => h x (List.mem_cons_of_mem _ hx)) y hy).1
    have := h b List.mem_cons_self
    omega
theorem tks_front {a : Int} {l : List Int} (h : ∀ x ∈ l, 1 ≤ x) : (tks a l).dropLast.Pairwise (· < ·) ∧ ∀ y ∈ (tks a l).dropLast, a ≤ y ∧ y < a + l.sum := by
  have p := tks_pair (a := a) h
  rw [tks_split, List.pairwise_append] at p
  refine ⟨p.1, fun y hy => ⟨(tks_range h y ((List.dropLast_sublist _).subset hy)).1, p.2.2 y hy _ (List.mem_singleton.mpr rfl)⟩⟩
theorem sum_ge {l : List Int} (h : ∀ x ∈ l, 1 ≤ x) : (l.length : Int) ≤ l.sum := by
  induction l with
  | nil => simp
  | cons c l ih => rw [List.sum_cons, List.length_cons]; have := h c List.mem_cons_self; have := ih (fun x hx => h x (List.mem_cons_of_mem _ hx)); omega
theorem plan_wf {s : Int} {fs ls : List Int} (h0 : 0 ≤ s) (hf : ∀ x ∈ fs, 1 ≤ x) (hl : ∀ x ∈ ls, 1 ≤ x) (hn : ls ≠ []) : WF (tks s fs).dropLast (s + fs.sum) ls.sum (tks 0 ls).dropLast := by
  have a := tks_front (a := s) hf
  have b := tks_front (a := 0) hl
  have g1 := sum_ge hf
  have g2 := sum_ge hl
  have g3 := List.length_pos_iff.mpr hn
  exact ⟨a.1, fun x hx => ⟨by have := (a.2 x hx).1; omega, (a.2 x hx).2⟩, by omega, by omega, b.1, fun x hx => ⟨(b.2 x hx).1, by have := (b.2 x hx).2; omega⟩⟩
end Tk
namespace TkL
open PySem PySem.Spec PySem.Calls PyProof.Rows L2 Tk
section
variable {K : PySem.W.Frag} {C : Addr} {H : Hp} {Q : VK} {σ : L2.St}
theorem range_getD {l : List Int} {k : Int → Int} : (List.range (zI l).length).map (fun i => k (l.getD i 0)) = l.map k := by
  rw [zI_len]
  apply List.ext_getElem?
  intro i
  by_cases h : i < l.length
  · rw [List.getElem?_map, List.getElem?_range h, List.getElem?_map, List.getElem?_eq_getElem h]
    simp [List.getD_eq_getElem?_getD, List.getElem?_eq_getElem h]
  · rw [List.getElem?_eq_none (by simp; omega), List.getElem?_eq_none (by simp; omega)]
theorem dcfI {J : It} {H1 : Hp} {xs : List Int} (W : Wk J H1 (zI xs)) {j : Nat} {tk tv : TE} {σ : L2.St} {Q : Addr → Hp → Prop} (f : Int → Int) (hz : xs.length ≤ 1000000)
    (hk : ∀ n H' (Qv : VK), n ∈ xs → Ex H1 H' → Qv (.int (f n)) H' → tk ((wipe σ [j]).set j (some (.int n))) H' Qv)
    (hv : ∀ n H' (Qv : VK), n ∈ xs → Ex H1 H' → Qv (.bl true) H' → tv ((wipe σ [j]).set j (some (.int n))) H' Qv)
    (hd : ∀ D H', Ex H1 H' → H1 D = none → H' D = some (.dK (mkD (xs.map f))) → Q D H') :
    ∀ D, H1 D = none → ∃ W : Nat → Nat → Hp → Prop, (∃ m, W 0 m (upd H1 D (.dK []))) ∧ ∀ i m H, W i m H →
      (J.stop i H ∧ Q D H) ∨ (J.go i H ∧ ∃ Nx : Hp → Prop, (∀ H', Nx H' → ∃ m', m' < m ∧ W (i + 1) m' H') ∧ ∀ x H', J.yld i H x H' → gName j x (wipe σ [j]) H' fun σ2 H2 => wipe σ2 [j] = wipe σ [j] ∧ tYes σ2 H2 fun b H3 =>
        if b = true then tk σ2 H3 fun y H4 => tv σ2 H4 fun z H5 => ∃ kvs k, y = kV k ∧ H5 D = some (.dK kvs) ∧ kvs.length < sizeLine ∧ Nx (upd H5 D (.dK (putK kvs k z))) else Nx H3) := by
  refine dcf W (fun i => f (xs.getD i 0)) (by rw [zI_len]; exact hz) (fun i x H' Qv hx e q => ?_) (fun i x H' Qv hx e q => ?_) (fun D H' e h1 h2 => ?_)
  · obtain ⟨n, hn, rfl⟩ := zI_get hx
    have e2 : xs.getD i 0 = n := by rw [List.getD_eq_getElem?_getD, hn]; rfl
    rw [e2] at q
    exact hk n H' Qv (List.mem_of_getElem? hn) e q
  · obtain ⟨n, hn, rfl⟩ := zI_get hx
    exact hv n H' Qv (List.mem_of_getElem? hn) e q
  · rw [range_getD] at h2
    exact hd D H' e h1 h2
theorem pt1 {x : V} : putF "early" x [] = [(("early" : Str), x)] := rfl
theorem pt2 {x y : V} : putF "begin" y [(("early" : Str), x)] = [(("early" : Str), x), ("begin", y)] := rfl
theorem pt3 {x y z : V} : putF "length" z [(("early" : Str), x), ("begin", y)] = [(("early" : Str), x), ("begin", y), ("length", z)] := rfl
theorem pt4 {x y z u : V} : putF "offsets" u [(("early" : Str), x), ("begin", y), ("length", z)] = [(("early" : Str), x), ("begin", y), ("length", z), ("offsets", u)] := rfl
theorem pt5 {x y z u v : V} : putF "marks" v [(("early" : Str), x), ("begin", y), ("length", z), ("offsets", u)] = [(("early" : Str), x), ("begin", y), ("length", z), ("offsets", u), ("marks", v)] := rfl
theorem pt6 {x y z u v w : V} : putF "parts" w [(("early" : Str), x), ("begin", y), ("length", z), ("offsets", u), ("marks", v)] = [(("early" : Str), x), ("begin", y), ("length", z), ("offsets", u), ("marks", v), ("parts", w)] := rfl
theorem upd_upd {H : Hp} {a : Addr} {o u : HO} : upd (upd H a o) a u = upd H a u := by
  funext x
  by_cases h : x = a
  · subst h; rw [upd_same, upd_same]
  · rw [upd_ne h, upd_ne h, upd_ne h]
theorem sqT_upd {p a C C' dx dx' : Addr} {fs gs : List (Str × V)} {xs : List V} (s : SqT K H p xs) (h : H a = some (.ins C dx fs)) : SqT K (upd H a (.ins C' dx' gs)) p xs := by
  have ne : ∀ {u : HO}, H p = some u → (∀ C dx fs, u ≠ .ins C dx fs) → p ≠ a := fun hp hu e => by
    subst e
    rw [hp] at h
    cases h
    exact hu _ _ _ rfl
  rcases s with (s | ⟨o, s⟩) | s
  · exact .inl (.inl (by rw [upd_ne (ne s fun _ _ _ z => by cases z)]; exact s))
  · exact .inl (.inr ⟨o, by rw [upd_ne (ne s fun _ _ _ z => by cases z)]; exact s⟩)
  · exact .inr s
end
section
variable {K : PySem.W.Frag} {C : Addr}
theorem rdRinit (T : TyF K C) (vs : List V) (H : Hp) (Q : VK) (E : XK) (h : spInit K C vs H Q E) : tRinit K { nx := fun _ H' => Q .non H', rt := Q } (start ["self", "early", "begin", "length", "offsets", "offset"] vs) H := by
  obtain ⟨a, dx, p1, p2, r, rfl, ha, s1, s2, rb, h⟩ := h
  unfold tRinit
  walk_at "rd"
  refine ⟨_, _, _, _, rfl, ha, T.cl, T.early, by show 0 < 1000; decide, ?_⟩
  walk_at "rd"
  refine ⟨_, _, _, _, rfl, upd_same, T.cl, T.begin_, by show 1 < 1000; decide, ?_⟩
  rw [upd_upd, pt1, pt2]
  walk_at "rd"
  refine ⟨_, _, _, _, rfl, upd_same, T.cl, T.length, by show 2 < 1000; decide, ?_⟩
  rw [upd_upd, pt3]
  walk_at "rd"
  refine ⟨_, _, _, _, rfl, upd_same, T.cl, T.offsets, by show 3 < 1000; decide, ?_⟩
  rw [upd_upd, pt4]
  walk_at "rd"
  refine x_dc (x_itup ?_)
  walk_at "rd"
  have s2' := sqT_upd (C' := C) (dx' := dx) (gs := [("early", V.ref p1), ("begin", V.int r.beg), ("length", V.int r.len), ("offsets", V.ref p2)]) s2 ha
  refine ⟨⟨_, s2'⟩, ?_⟩
  refine dcfI (Wk.tup s2') (fun n => n) (by have := rb.ol2; omega) (fun n H' Qv _ e q => ?_) (fun n H' Qv _ e q => ?_) (fun D H1 e1 hD hm => ?_)
  · walk_at "rd"; exact q
  · walk_at "rd"; exact q
  · walk_at "rd"
    have ha1 := e1 _ _ upd_same
    refine ⟨_, _, _, _, rfl, ha1, T.cl, T.marks, by show 4 < 1000; decide, ?_⟩
    rw [pt5]
    walk_at "rd"
    refine x_tup ?_
    walk_at "rd"
    refine ⟨by show 4 ≤ sizeLine; decide, fun p hp => ?_⟩
    have npa : a ≠ p := fun e => by subst e; rw [upd_same] at hp; cases hp
    walk_at "rd"
    refine ⟨_, _, _, _, rfl, (by rw [upd_ne npa]; exact upd_same), T.cl, T.parts, by show 5 < 1000; decide, ?_⟩
    rw [pt6]
    have hDa : D ≠ a := fun e => by subst e; rw [upd_same] at hD; cases hD
    have hDp : D ≠ p := fun e => by subst e; rw [upd_ne hDa, hm] at hp; cases hp
    have hp1 : H1 p = none := by rw [upd_ne npa.symm] at hp; exact hp
    have keep : ∀ x o, x ≠ a → H x = some o → H1 x = some o := fun x o hx ho => e1 x o (by rw [upd_ne hx]; exact ho)
    refine h _ (fun x o hx ho => ?_) ?_
    · have h1 := keep x o hx ho
      rw [upd_ne hx, upd_ne (ne_of_none h1 hp1), upd_ne hx]
      exact h1
    · have t1 : SqT K H1 p1 (zI r.early) := e1.sqT (sqT_upd s1 ha)
      have t2 : SqT K H1 p2 (zI r.offs) := e1.sqT s2'
      have lift : ∀ {q : Addr} {xs : List V}, SqT K H1 q xs → SqT K (upd (upd (upd H1 a (.ins C dx [(("early" : Str), V.ref p1), ("begin", V.int r.beg), ("length", V.int r.len), ("offsets", V.ref p2), ("marks", V.ref D)])) p (.tup [.ref p1, .int r.beg, .int r.len, .ref p2])) a (.ins C dx (rowFs p1 r.beg r.len p2 D p))) q xs := fun s =>
        sqT_upd ((Ex.new hp).sqT (sqT_upd s ha1)) (by rw [upd_ne npa]; exact upd_same)
      refine ⟨dx, p1, p2, D, p, upd_same, lift t1, lift t2, ?_, ?_, rb⟩
      · rw [upd_ne hDa, upd_ne hDp, upd_ne hDa, hm, List.map_id']
      · refine tOf ?_
        rw [upd_ne npa.symm, upd_same]
theorem mk_row {K : PySem.W.Frag} {C : Addr} {H : Hp} {Q : VK} {E : XK} {p1 p2 : Addr} {r : RV} (s1 : SqT K H p1 (zI r.early)) (s2 : SqT K H p2 (zI r.offs)) (rb : RB r) (h : ∀ x H', Ex H H' → H x = none → RowAt K C H' x r → Q (.ref x) H') :
    ∀ x dx, H x = none → H dx = none → dx ≠ x → spInit K C (V.ref x :: [.ref p1, .int r.beg, .int r.len, .ref p2]) (upd (upd H dx (.own x)) x (.ins C dx [])) (fun v H2 => v = .non ∧ Q (.ref x) H2) E := by
  intro x dx hx hdx hne
  have e0 : Ex H (upd (upd H dx (.own x)) x (.ins C dx [])) := fun y o hy => by
    rw [upd_ne (ne_of_none hy hx), upd_ne (ne_of_none hy hdx)]; exact hy
  refine ⟨x, dx, p1, p2, r, rfl, upd_same, e0.sqT s1, e0.sqT s2, rb, fun H' k R => ⟨rfl, h x H' (fun y o hy => k y o (ne_of_none hy hx) (e0 y o hy)) hx R⟩⟩
end
end TkL

namespace TkL
open PySem PySem.Spec PySem.Calls PyProof.Rows L2 Tk
section
variable {K : PySem.W.Frag} {C : Addr} {H : Hp} {Q : VK} {σ : L2.St}
theorem cut_lo {l : List Int} {k : Int} (h0 : 0 ≤ k) : cutV (zI l) (some k) none = zI (l.drop k.toNat) := by
  obtain ⟨n, rfl⟩ : ∃ n : Nat, k = n := ⟨k.toNat, by omega⟩
  unfold cutV
  rw [HT.sIx_nat, HT.sIx_none, zI_len]
  have e : (zI l).drop (min n l.length) = zI (l.drop n) := by
    unfold zI
    rw [List.map_drop]
    by_cases h : n ≤ l.length
    · rw [Nat.min_eq_left h]
    · rw [Nat.min_eq_right (by omega), List.drop_eq_nil_of_le (by simp), List.drop_eq_nil_of_le (by simp; omega)]
  rw [e, List.take_of_length_le (by rw [zI_len, List.length_drop]; omega)]
  simp
theorem cut_hi {l : List Int} {k : Int} (h0 : 0 ≤ k) : cutV (zI l) none (some k) = zI (l.take k.toNat) := by
  obtain ⟨n, rfl⟩ : ∃ n : Nat, k = n := ⟨k.toNat, by omega⟩
  unfold cutV
  rw [HT.sIx_nat, HT.sIx_none, zI_len, List.drop_zero, Nat.sub_zero]
  unfold zI
  rw [← List.map_take]
  congr 1
  rw [List.take_eq_take_iff]
  simp
theorem cut_lh {l : List Int} {j k : Int} (h0 : 0 ≤ j) (h1 : 0 ≤ k) : cutV (zI l) (some j) (some k) = zI ((l.drop j.toNat).take (k.toNat - j.toNat)) := by
  obtain ⟨m, rfl⟩ : ∃ n : Nat, j = n := ⟨j.toNat, by omega⟩
  obtain ⟨n, rfl⟩ : ∃ n : Nat, k = n := ⟨k.toNat, by omega⟩
  unfold cutV
  rw [HT.sIx_nat, HT.sIx_nat, zI_len]
  unfold zI
  rw [← List.map_drop, ← List.map_take]
  congr 1
  apply List.ext_getElem?
  intro i
  simp only [List.getElem?_take, List.getElem?_drop, Int.toNat_natCast]
  by_cases c : m ≤ l.length
  · rw [Nat.min_eq_left c]
    by_cases d : n ≤ l.length
    · rw [Nat.min_eq_left d]
    · rw [Nat.min_eq_right (by omega)]
      by_cases e : i < l.length - m
      · rw [if_pos e, if_pos (by omega)]
      · rw [if_neg e]
        split
        · rw [List.getElem?_eq_none (by omega)]
        · rfl
  · rw [Nat.min_eq_right (a := m) (by omega)]
    have e1 : l[l.length + i]? = none := List.getElem?_eq_none (by omega)
    have e2 : l[m + i]? = none := List.getElem?_eq_none (by omega)
    rw [e1, e2]
    split <;> split <;> rfl
theorem x_slL {p : Addr} {l : List Int} {lo hi : Option Int} {m : List Int} (s : SqL K H p (zI l)) (e : cutV (zI l) lo hi = zI m) (h : ∀ q H', Ex H H' → H q = none → H' q = some (.lst (zI m)) → Q (.ref q) H') : rSlL K (.ref p) lo hi H Q :=
  ⟨p, _, rfl, s, fun q hq => by rw [e]; exact h q _ (Ex.new hq) hq upd_same⟩
theorem x_cat {p q : Addr} {l m : List Int} (s : H p = some (.lst (zI l))) (t : H q = some (.lst (zI m))) (hz : l.length + m.length ≤ 1000000) (h : ∀ r H', Ex H H' → H r = none → H' r = some (.lst (zI (l ++ m))) → Q (.ref r) H') : rCat (.ref p) (.ref q) H Q :=
  ⟨p, q, _, _, rfl, rfl, s, t, by rw [zI_len, zI_len]; exact sz_of hz, x_new (by rw [zI_app]; exact h)⟩
theorem x_popR {p : Addr} {l : List Int} {x : Int} (s : H p = some (.lst (zI (l ++ [x])))) (h : Q (.int x) (upd H p (.lst (zI l)))) : rPop (.ref p) [] H Q := by
  refine ⟨p, _, .int x, rfl, rfl, s, ?_, ?_⟩
  · rw [zI_len, List.length_append, List.length_singleton, Nat.add_sub_cancel]
    unfold zI
    rw [List.map_append, List.getElem?_append_right (by simp)]
    simp
  · have e : (zI (l ++ [x])).dropLast = zI l := by unfold zI; rw [List.map_append]; simp
    rw [e]; exact h
theorem x_def1 {ty : TE} {o : HO} {H' : Hp} : True := trivial
theorem take_succ' {l : List Int} {i : Nat} {x : Int} (h : l[i]? = some x) : l.take (i + 1) = l.take i ++ [x] := take_succ_of h
end
section
variable {K : PySem.W.Frag} {C : Addr}
theorem rdPticks_of (T : TyF K C) (vs : List V) (H : Hp) (Q : VK) (E : XK) (h : spTicksOf K vs H Q E) : tPticks_of K { nx := fun _ H' => Q .non H', rt := Q } (start ["numbers", "ticks", "lap"] vs) H := by
  obtain ⟨p, ns, rfl, s, hne, hz, h⟩ := h
  obtain ⟨a, l, rfl⟩ : ∃ a l, ns = a :: l := by cases ns with
    | nil => exact absurd rfl hne
    | cons a l => exact ⟨a, l, rfl⟩
  unfold tPticks_of
  walk_at "rd"
  refine x_lst ?_
  walk_at "rd"
  refine x_ixL s (atI_zI (by omega) (by simp)) ?_
  walk_at "rd"
  refine ⟨by show 1 ≤ sizeLine; decide, ?_⟩
  (intro L hL; generalize hX : upd _ L _ = H1; have e1 := ex_of hX hL; have hl := at_of hX; clear hX)
  walk_at "rd"
  refine x_for (x_ilist ?_)
  walk_at "rd"
  refine x_slL (e1.sqL s) (cut_lo (by omega)) fun q H2 e2 hq h2 => ?_
  walk_at "rd"
  refine ⟨⟨_, lOf h2⟩, ?_⟩
  have hLq : L ≠ q := fun e => by subst e; rw [hl] at hq; cases hq
  have e12 := e1.trans e2
  let H0 : Hp := upd H q (.lst (zI l))
  have hqH : H q = none := e1.back hq
  have E0 : ∀ {H' : Hp}, Ex H H' → H' q = some (.lst (zI l)) → Ex H0 H' := fun e hh x o hx => by
    by_cases c : x = q
    · subst c; rw [show H0 x = some (.lst (zI l)) from upd_same] at hx; cases hx; exact hh
    · rw [show H0 x = H x from upd_ne c] at hx; exact e _ _ hx
  refine for_wk (H0 := H0) (Wk.list (lOf upd_same)) (fun i σ H' => ∃ u, σ = [some (.ref p), some (.ref L), u] ∧ Ex H H' ∧ H' q = some (.lst (zI l)) ∧ H' L = some (.lst (zI (tks a (l.take i))))) ⟨_, rfl, e12, h2, e2 _ _ hl⟩ (fun i σ H' ⟨_, _, e, hh, _⟩ => E0 e hh) ?_ ?_
  · rintro i x σ H3 hx ⟨u, rfl, e3, hq3, hl3⟩
    obtain ⟨n, hn, rfl⟩ := zI_get hx
    have hi := lt_of_get hn
    walk_at "rd"
    refine x_ty hl3 ?_
    walk_at "rd"
    refine x_ixL (lOf hl3) (by rw [tks_split]; exact atI_last) ?_
    walk_at "rd"
    refine x_appR hl3 (by rw [tks_len, List.length_take]; rw [List.length_cons] at hz; omega) ?_
    refine ⟨_, rfl, e3.mut hL, by rw [upd_ne hLq.symm]; exact hq3, ?_⟩
    rw [upd_same, take_succ' hn, tks_snoc]
  · rintro σ H3 ⟨u, rfl, e3, hq3, hl3⟩
    rw [zI_len, List.take_length] at hl3
    walk_at "rd"
    exact h H3 L e3 hL hl3
theorem rdProw_of_laps (T : TyF K C) (vs : List V) (H : Hp) (Q : VK) (E : XK) (h : spRowOfLaps K C vs H Q E) : tProw_of_laps K C { nx := fun _ H' => Q .non H', rt := Q } (start ["start", "first", "laps", "early", "begin", "offsets", "length"] vs) H := by
  obtain ⟨s, pf, pl, fs, ls, rfl, sf, sl, h0, hf, hl, hn, hb, hL, h⟩ := h
  have g1 := sum_ge hf
  have g2 := sum_ge hl
  unfold tProw_of_laps
  walk_at "rd"
  refine x_lst ?_
  walk_at "rd"
  refine ⟨by show 1 ≤ sizeLine; decide, ?_⟩
  (intro A hA; generalize hX : upd _ A _ = H1; have e1 := ex_of hX hA; have hA1 := at_of hX; clear hX)
  walk_at "rd"
  have sf1 : Seq K H1 pf (zI fs) := sf.imp e1.sqL e1.sqT
  refine x_listT sf1 fun B H2 e2 hB hB2 => ?_
  walk_at "rd"
  refine x_cat (l := [s]) (e2 _ _ hA1) hB2 (by simp; omega) fun D H3 e3 hD hD3 => ?_
  walk_at "rd"
  refine ⟨D, _, rfl, lOf hD3, by simp, by simp; omega, fun H4 F e4 hF hF4 => ?_⟩
  have e14 : Ex H H4 := e1.trans (e2.trans (e3.trans e4))
  have hFH : H F = none := (e1.trans (e2.trans e3)).back hF
  walk_at "rd"
  refine x_ty hF4 ?_
  have hF4' : H4 F = some (.lst (zI ((tks s fs).dropLast ++ [s + fs.sum]))) := by rw [hF4, ← tks_split]; rfl
  refine x_popR hF4' ?_
  walk_at "rd"
  have e5 : Ex H (upd H4 F (.lst (zI (tks s fs).dropLast))) := e14.mut hFH
  refine x_lst ?_
  walk_at "rd"
  refine ⟨by show 1 ≤ sizeLine; decide, ?_⟩
  (intro A2 hA2; generalize hX : upd _ A2 _ = H6; have e6 := ex_of hX hA2; have hA6 := at_of hX; clear hX)
  walk_at "rd"
  have sl6 : Seq K H6 pl (zI ls) := sl.imp (e5.trans e6).sqL (e5.trans e6).sqT
  refine x_listT sl6 fun B2 H7 e7 hB2 hB7 => ?_
  walk_at "rd"
  refine x_cat (l := [0]) (e7 _ _ hA6) hB7 (by simp; omega) fun D2 H8 e8 hD2 hD8 => ?_
  walk_at "rd"
  refine ⟨D2, _, rfl, lOf hD8, by simp, by simp; omega, fun H9 F2 e9 hF2 hF9 => ?_⟩
  have e69 := e6.trans (e7.trans (e8.trans e9))
  have hF2' : upd H4 F (.lst (zI (tks s fs).dropLast)) F2 = none := (e6.trans (e7.trans e8)).back hF2
  have hF2H : H F2 = none := e5.back hF2'
  have hFF : F ≠ F2 := fun e => by subst e; rw [upd_same] at hF2'; cases hF2'
  have hF9F := e69 _ _ (upd_same (H := H4) (a := F) (o := .lst (zI (tks s fs).dropLast)))
  walk_at "rd"
  refine x_ty hF9 ?_
  have hF9' : H9 F2 = some (.lst (zI ((tks 0 ls).dropLast ++ [0 + ls.sum]))) := by rw [hF9, ← tks_split]; rfl
  refine x_popR hF9' ?_
  walk_at "rd"
  have e10 : Ex H (upd H9 F2 (.lst (zI (tks 0 ls).dropLast))) := (e5.trans e69).mut hF2H
  have wf := plan_wf h0 hf hl hn
  refine ⟨F, F2, (tks s fs).dropLast, s + fs.sum, ls.sum, (tks 0 ls).dropLast, by rw [Int.zero_add], lOf (by rw [upd_ne hFF]; exact hF9F), .inl (lOf upd_same), wf, by omega, by omega, fun H11 a r e11 ha R hr => ?_⟩
  exact h H11 a r (e10.trans e11) (e10.back ha) R hr
theorem rdProw_of_ticks (T : TyF K C) (vs : List V) (H : Hp) (Q : VK) (E : XK) (h : spRowOfTicks K C vs H Q E) : tProw_of_ticks K C { nx := fun _ H' => Q .non H', rt := Q } (start ["ticks"] vs) H := by
  obtain ⟨p, ts, rfl, s, hne, hp, hr, h⟩ := h
  obtain ⟨l, x, rfl⟩ : ∃ l x, ts = l ++ [x] := ⟨ts.dropLast, ts.getLast hne, (List.dropLast_concat_getLast hne).symm⟩
  have hx := hr x (by simp)
  unfold tProw_of_ticks
  walk_at "rd"
  refine x_ixL s atI_last ?_
  walk_at "rd"
  intro D H1 e1 hD hD1
  walk_at "rd"
  have hall : ∀ y ∈ l ++ [x], 0 ≤ y ∧ y < x + 1 := fun y hy => by
    refine ⟨(hr y hy).1, ?_⟩
    rw [List.pairwise_append] at hp
    rcases List.mem_append.mp hy with z | z
    · have := hp.2.2 y z x (by simp); omega
    · rw [List.mem_singleton.mp z]; omega
  refine ⟨p, D, _, _, _, [], rfl, e1.sqL s, .inl (lOf hD1), ⟨hp, hall, by omega, by omega, List.Pairwise.nil, fun _ z => absurd z List.not_mem_nil⟩, by omega, by omega, fun H2 a r e2 ha R hrr => ?_⟩
  refine h H2 a r (e1.trans e2) (e1.back ha) R fun t => ?_
  rw [hrr t]
  unfold qhas
  split
  · rfl
  · rename_i c
    simp only [List.not_mem_nil, decide_false]
    exact (decide_eq_false fun z => by have := (hall t z).2; omega).symm
end
end TkL

namespace TkL
open PySem PySem.Spec PySem.Calls PyProof.Rows L2 Tk
section
variable {K : PySem.W.Frag} {C : Addr} {H : Hp} {Q : VK} {σ : L2.St}
theorem x_iseq {tl : TE} {R : It → Hp → Prop} (h : tl σ H fun x H1 => ∃ a xs, x = .ref a ∧ (SqL K H1 a xs ∨ SqT K H1 a xs) ∧ ∀ J, Wk J H1 xs → R J H1) : iSeq K tl σ H R := h
theorem Seq.ex {H H' : Hp} {p : Addr} {xs : List V} (s : Seq K H p xs) (e : Ex H H') : Seq K H' p xs := s.imp e.sqL e.sqT
theorem x_irng2 {ta : TA} {R : It → Hp → Prop} (h : ta σ H fun vs H1 => ∃ i j, vs = [.int i, .int j] ∧ (-2 ^ 62 ≤ i ∧ i < 2 ^ 62 ∧ -2 ^ 62 ≤ j ∧ j < 2 ^ 62) ∧ R (Itr i (j - i).toNat) H1) : iRng2 ta σ H R := h
theorem map_bl {l : List Int} {f : Int → Bool} : (l.map fun n => V.bl (f n)) = (l.map f).map V.bl := by rw [List.map_map]; rfl
end
section
variable {K : PySem.W.Frag} {C : Addr}
theorem rdPshortest (T : TyF K C) (vs : List V) (H : Hp) (Q : VK) (E : XK) (h : spShortest K vs H Q E) : tPshortest K { nx := fun _ H' => Q .non H', rt := Q } (start ["length", "offsets", "marks", "size", "offset"] vs) H := by
  obtain ⟨l, p, o, rfl, s, l1, l2, ow, ol, h⟩ := h
  unfold tPshortest
  walk_at "rd"
  refine x_dc (x_iseq ?_)
  walk_at "rd"
  refine ⟨p, _, rfl, s, fun J W => ?_⟩
  refine dcfI W (fun n => n) (by omega) (fun n H' Qv _ e q => ?_) (fun n H' Qv _ e q => ?_) (fun D H1 e1 hD hm => ?_)
  · walk_at "rd"; exact q
  · walk_at "rd"; exact q
  rw [List.map_id'] at hm
  walk_at "rd"
  refine x_for (x_irng2 ?_)
  walk_at "rd"
  refine ⟨_, _, rfl, by omega, ?_⟩
  refine for_wk (H0 := H1) (Wk.rng (lo := 1)) (fun i σ H' => ∃ u, σ = [some (.int l), some (.ref p), some (.ref D), u, none] ∧ Ex H1 H' ∧ ∀ m : Int, 1 ≤ m → m < 1 + (i : Int) → ¬ (l % m = 0 ∧ Closed l o m)) ⟨_, rfl, Ex.refl _, fun m a b => by omega⟩ (fun i σ H' ⟨_, _, e, _⟩ => e) ?_ ?_
  · rintro i x σ H2 hx ⟨u, rfl, e2, hmn⟩
    have hi := lt_of_get hx
    rw [rngV_length] at hi
    rw [rngV_get hi] at hx
    cases hx
    walk_at "rd"
    refine x_rI (by omega) ?_
    walk_at "rd"
    refine x_rEq rfl ?_
    walk_at "rd"
    have nope : ∀ {H' : Hp}, Ex H1 H' → ¬ (l % (1 + (i : Int)) = 0 ∧ Closed l o (1 + (i : Int))) → ∃ u, [some (V.int l), some (V.ref p), some (V.ref D), some (V.int (1 + (i : Int))), none] = [some (V.int l), some (V.ref p), some (V.ref D), u, none] ∧ Ex H1 H' ∧ ∀ m : Int, 1 ≤ m → m < 1 + ((i + 1 : Nat) : Int) → ¬ (l % m = 0 ∧ Closed l o m) := fun e hc => ⟨_, rfl, e, fun m a b => by
      by_cases c : m = 1 + (i : Int)
      · subst c; exact hc
      · exact hmn m a (by omega)⟩
    by_cases c : l % (1 + (i : Int)) = 0
    · have e : decide (V.int (l % (1 + (i : Int))) = V.int 0) = true := decide_eq_true (by rw [c])
      rw [e]
      refine iteT ?_
      walk_at "rd"
      refine x_lc (x_iseq ?_)
      walk_at "rd"
      have s2 : Seq K H2 p (zI o) := s.ex (e1.trans e2)
      refine ⟨p, _, rfl, s2, fun J2 W2 => ?_⟩
      refine lcfI W2 (fun _ => true) (fun n => .bl (decide ((n + (1 + (i : Int))) % l ∈ o))) (by omega) (fun n H' Qb _ e q => q) (fun n H' Qv _ _ e q => ?_) (fun F H3 e3 hF hl => ?_)
      · refine x_din (t := (n + (1 + (i : Int))) % l) (p := D) (o := o) (fun P z => ?_) (fun P z => ?_) (.inl (e _ _ (e2 _ _ hm))) q
        · walk_at "rd"
          exact x_rI (by omega) z
        · walk_at "rd"; exact z
      · rw [List.filter_eq_self.mpr (fun _ _ => rfl), map_bl] at hl
        walk_at "rd"
        refine ⟨F, _, rfl, lOf hl, ?_⟩
        walk_at "rd"
        have ea : (o.map fun n => decide ((n + (1 + (i : Int))) % l ∈ o)).all id = true ↔ Closed l o (1 + (i : Int)) := by
          rw [List.all_map, List.all_eq_true]
          simp only [Function.comp, id, decide_eq_true_iff]
          rfl
        cases hb : (o.map fun n => decide ((n + (1 + (i : Int))) % l ∈ o)).all id with
        | true =>
          refine iteT ?_
          walk_at "rd"
          exact h H3 _ (e1.trans (e2.trans e3)) ⟨by omega, by omega, c, ea.mp hb, fun m a b => hmn m a b⟩
        | false =>
          refine iteF ?_
          walk_at "rd"
          exact nope (e2.trans e3) fun z => by rw [ea.mpr z.2] at hb; cases hb
    · have e : decide (V.int (l % (1 + (i : Int))) = V.int 0) = false := decide_eq_false fun z => c (V.int.inj z)
      rw [e]
      refine iteF ?_
      refine iteF ?_
      walk_at "rd"
      exact nope e2 fun z => c z.1
  · rintro σ H2 ⟨u, rfl, e2, hmn⟩
    rw [rngV_length] at hmn
    walk_at "rd"
    exact h H2 l (e1.trans e2) ⟨l1, by omega, by simp, closed_all l1 ow, fun m a b => hmn m a (by omega)⟩
end
end TkL

namespace TkL
open PySem PySem.Spec PySem.Calls PyProof.Rows L2 Tk
section
variable {K : PySem.W.Frag} {C : Addr} {H : Hp} {Q : VK} {σ : L2.St}
theorem x_ikeys {td : TE} {R : It → Hp → Prop} (h : td σ H fun x H1 => ∃ d o, x = .ref d ∧ ((∃ kvs, H1 d = some (.frz o (.dK kvs)) ∧ R (Itk d o kvs) H1) ∨ ∃ kvs, H1 d = some (.frz o (.dT kvs)) ∧ R (Itkt d o kvs) H1)) : iKeys td σ H R := h
theorem x_lock {t : TS} {D : Ends} {d : Addr} {u : HO} (h1 : H d = some u) (h2 : Mut (some u)) (h : ∀ od : Obj, t { nx := fun σ' H' => H' d = some (.frz od u) ∧ D.nx σ' (upd H' d u), rt := fun v H' => H' d = some (.frz od u) ∧ D.rt v (upd H' d u), bk := fun σ' H' => H' d = some (.frz od u) ∧ D.bk σ' (upd H' d u), ct := fun σ' H' => H' d = some (.frz od u) ∧ D.ct σ' (upd H' d u) } σ (upd H d (.frz od u))) : tLock t D σ H := ⟨d, u, h1, h2, h⟩
theorem x_lockE {t : TE} {d : Addr} {u : HO} (h1 : H d = some u) (h2 : Mut (some u)) (h : ∀ od : Obj, t σ (upd H d (.frz od u)) fun v H' => H' d = some (.frz od u) ∧ Q v (upd H' d u)) : tLockE t σ H Q := ⟨d, u, h1, h2, h⟩
theorem unlock {H' : Hp} {d : Addr} {u : HO} {od : Obj} (h1 : H d = some u) (e : Ex (upd H d (.frz od u)) H') : Ex H (upd H' d u) := fun x o hx => by
  by_cases c : x = d
  · subst c; rw [h1] at hx; cases hx; exact upd_same
  · rw [upd_ne c]; exact e x o (by rw [upd_ne c]; exact hx)
theorem x_sorted {p : Addr} {l : List Int} (s : SqL K H p (zI l)) (h : ∀ m q H', Ex H H' → H q = none → m.Perm l → m.Pairwise (· ≤ ·) → H' q = some (.lst (zI m)) → Q (.ref q) H') : rSortedI K [.ref p] H Q :=
  ⟨p, l, rfl, s, fun m q h1 h2 hq => h m q _ (Ex.new hq) hq h1 h2 upd_same⟩
theorem map_int {l : List Int} {f : Int → Int} : (l.map fun n => V.int (f n)) = zI (l.map f) := by unfold zI; rw [List.map_map]; rfl
theorem strict {l : List Int} (h : l.Pairwise (· ≤ ·)) (n : l.Nodup) : l.Pairwise (· < ·) := by
  induction l with
  | nil => exact List.Pairwise.nil
  | cons a l ih =>
    rw [List.pairwise_cons] at h ⊢
    rw [List.nodup_cons] at n
    refine ⟨fun b hb => ?_, ih h.2 n.2⟩
    have := h.1 b hb
    have : a ≠ b := fun e => n.1 (by rw [e]; exact hb)
    omega
end
section
variable {K : PySem.W.Frag} {C : Addr}
theorem rdPnormal (T : TyF K C) (vs : List V) (H : Hp) (Q : VK) (E : XK) (h : spNormal K C vs H Q E) : tPnormal K C { nx := fun _ H' => Q .non H', rt := Q } (start ["early", "begin", "length", "offsets", "size", "marks", "last", "back", "left", "found", "is_early", "offset", "mark"] vs) H := by
  obtain ⟨pe, po, e, b, l, o, rfl, se, so, w, hb, hl, h⟩ := h
  have b0 := w.b0
  have l1 := w.l1
  have hel : (e.length : Int) ≤ b := by have := len_of_range w.es w.er b0; omega
  have hol : (o.length : Int) ≤ l := by have := len_of_range w.os w.ow (by omega); omega
  unfold tPnormal
  walk_at "rd"
  refine ⟨po, _, rfl, so, ?_⟩
  rw [zI_len]
  walk_at "rd"
  refine x_rEq rfl ?_
  walk_at "rd"
  by_cases c : o = []
  · -- a row with a last tick
    subst c
    refine iteT ?_
    walk_at "rd"
    refine ⟨pe, _, rfl, .inl ⟨se, ?_⟩⟩
    (intro p1 hp1; generalize hX : upd _ p1 _ = H1; have e1 := ex_of hX hp1; have h1 := at_of hX; clear hX)
    walk_at "rd"
    refine x_lenL (e1.sqL se) ?_
    walk_at "rd"
    have fin : ∀ z, ((e = [] ∧ z = 0) ∨ ∃ y ∈ e, z = y + 1 ∧ ∀ x ∈ e, x ≤ y) → z ≤ b → ∀ p2 H2, Ex H1 H2 → H2 p2 = some (.tup []) → ∀ x dx, H2 x = none → H2 dx = none → dx ≠ x → spInit K C (V.ref x :: [V.ref p1, .int z, .int 1, .ref p2]) (upd (upd H2 dx (.own x)) x (.ins C dx [])) (fun v H2 => v = .non ∧ Q (.ref x) H2) E0 := fun z hz hzb p2 H2 e2 h2 => by
      have fc := finite_canon (b := z) w.es (fun x hx => (w.er x hx).1) hz
      refine mk_row (r := ⟨e, z, 1, []⟩) (tOf (e2 _ _ h1)) (tOf h2) ⟨fc.1, by show z ≤ 200000; omega, by show (1 : Int) ≤ 20000; omega⟩ fun x H3 e3 hx R => ?_
      refine h H3 x _ (e1.trans (e2.trans e3)) ((e1.trans e2).back hx) R fun t => ?_
      rw [fc.2 t]
      unfold qhas
      split
      · rfl
      · rename_i ct
        simp only [List.not_mem_nil, decide_false]
        exact decide_eq_false fun hm => by have := (w.er t hm).2; omega
    refine x_iteD (fun c => ?_) (fun c => ?_)
    · have hne : e ≠ [] := fun z => by subst z; simp at c
      obtain ⟨f, x, rfl⟩ : ∃ f x, e = f ++ [x] := ⟨e.dropLast, e.getLast hne, (List.dropLast_concat_getLast hne).symm⟩
      have hx := w.er x (by simp)
      walk_at "rd"
      refine x_ixL (e1.sqL se) atI_last ?_
      walk_at "rd"
      intro p2 H2 e2 hp2 h2
      walk_at "rd"
      refine fin (x + 1) (.inr ⟨x, by simp, rfl, fun y hy => ?_⟩) (by omega) p2 H2 e2 h2
      have hp := w.es
      rw [List.pairwise_append] at hp
      rcases List.mem_append.mp hy with z | z
      · have := hp.2.2 y z x (by simp); omega
      · rw [List.mem_singleton.mp z]; omega
    · have hne : e = [] := List.eq_nil_of_length_eq_zero (by omega)
      walk_at "rd"
      intro p2 H2 e2 hp2 h2
      walk_at "rd"
      exact fin 0 (.inl ⟨hne, rfl⟩) b0 p2 H2 e2 h2
  · have hob : decide (V.int (o.length : Int) = V.int 0) = false := decide_eq_false fun z => c (List.eq_nil_of_length_eq_zero (by have := V.int.inj z; omega))
    rw [hob]
    refine iteF ?_
    walk_at "rd"
    refine ⟨l, po, o, rfl, so, l1, hl, w.ow, by omega, fun H1 n e1 hs => ?_⟩
    have hn := hs.n1
    have hnl := hs.nl
    show gName _ _ _ _ _
    walk_at "rd"
    refine x_dc (x_iseq ?_)
    walk_at "rd"
    refine ⟨po, _, rfl, so.ex e1, fun J W => ?_⟩
    refine dcfI W (fun x => x % n) (by omega) (fun x H' Qv _ e q => ?_) (fun x H' Qv _ e q => ?_) (fun D H2 e2 hD hm => ?_)
    · walk_at "rd"; exact x_rI (by omega) q
    · walk_at "rd"; exact q
    walk_at "rd"
    refine x_tup ?_
    walk_at "rd"
    refine x_lenL ((e1.trans e2).sqL se) ?_
    walk_at "rd"
    refine ⟨by show 3 ≤ sizeLine; decide, ?_⟩
    (intro p3 hp3; generalize hX : upd _ p3 _ = H3; have e3 := ex_of hX hp3; have h3 := at_of hX; clear hX)
    refine x_gtup3 (tOf h3) ?_
    walk_at "rd"
    have e13 := e1.trans (e2.trans e3)
    refine x_while (fun m σ H' => ∃ c k u, σ = [some (.ref pe), some (.int b), some (.int l), some (.ref po), some (.int n), some (.ref D), some (.int c), some (.int (b - c)), some (.int (k : Nat)), none, u, none, none] ∧ Ex H3 H' ∧ m = c.toNat ∧ 0 ≤ c ∧ c ≤ b ∧ k ≤ e.length ∧ (∀ y ∈ e.take k, y < c) ∧ (∀ y ∈ e.drop k, c ≤ y) ∧ ∀ t, c ≤ t → t < b → decide (t ∈ e) = cyc o n (t - b))
      b.toNat ⟨b, e.length, none, by rw [Int.sub_self]; rfl, Ex.refl _, rfl, b0, Int.le_refl _, Nat.le_refl _, fun y hy => (w.er y (List.mem_of_mem_take hy)).2, fun y hy => by rw [List.drop_length] at hy; exact absurd hy List.not_mem_nil, fun t h1 h2 => by omega⟩ ?_
    rintro m σ H4 ⟨c, k, u, rfl, e4, rfl, hc0, hcb, hk, htk, hdr, same⟩
    have e14 := e13.trans e4
    have out : ∀ (u : Option V) (H5 : Hp), Ex H3 H5 → (c = 0 ∨ decide (c - 1 ∈ e) ≠ cyc o n (c - 1 - b)) →
        tSeq (tLock (tAsg (tLc (iKeys (tVar 5)) (gName 12) tYes (tOp (rI (fun _ j => 0 < j) fun i j => V.int (i % j)) (tOp (rI0 fun i j => V.int (i + j)) (tVar 12) (tVar 7)) (tVar 4)) [12]) (gName 9)))
          (tRet (tMk C (spInit K C) E0 (tCons (tCB (kTuple K) (tCons (L2.tSl (rSlL K) (tVar 0) tNoPart (tPart (tVar 8))) tNil)) (tCons (tVar 6) (tCons (tVar 4) (tCons (tCB (kTuple K) (tCons (tCB (rSortedI K) (tCons (tLc (iList K (tVar 9)) (gName 12) tYes (tCB kInt (tCons (tVar 12) tNil)) [12]) tNil)) tNil)) tNil))))))
          { nx := fun x H' => Q V.non H', rt := Q } [some (.ref pe), some (.int b), some (.int l), some (.ref po), some (.int n), some (.ref D), some (.int c), some (.int (b - c)), some (.int (k : Nat)), none, u, none, none] H5 := fun u H5 e5 stop => by
      have hm5 := e5 _ _ (e3 _ _ hm)
      walk_at "rd"
      refine x_lock hm5 trivial fun od => ?_
      walk_at "rd"
      refine x_lc (x_ikeys ?_)
      walk_at "rd"
      refine ⟨D, od, rfl, .inl ⟨_, upd_same, ?_⟩⟩
      obtain ⟨zs, z1, z2, z3, z4⟩ := mkD_keys (o.map fun x => x % n)
      have W2 : Wk (Itk D od (mkD (o.map fun x => x % n))) (upd H5 D (.frz od (.dK (mkD (o.map fun x => x % n))))) (zI zs) := by
        have z := Wk.keys (upd_same (H := H5) (a := D) (o := .frz od (.dK (mkD (o.map fun x => x % n)))))
        rw [z1] at z; exact z
      rw [List.length_map] at z4
      refine lcfI W2 (fun _ => true) (fun z => .int ((z + (b - c)) % n)) (by omega) (fun z H' Qb _ e q => q) (fun z H' Qv _ _ e q => ?_) (fun F H6 e6 hF hl6 => ?_)
      · walk_at "rd"; exact x_rI (by omega) q
      rw [List.filter_eq_self.mpr (fun _ _ => rfl), map_int] at hl6
      walk_at "rd"
      refine ⟨e6 _ _ upd_same, ?_⟩
      have e56 := unlock hm5 e6
      have hFD : F ≠ D := fun z => by subst z; rw [upd_same] at hF; cases hF
      have hl7 : (upd H6 D (.dK (mkD (o.map fun x => x % n)))) F = some (.lst (zI (zs.map fun z => (z + (b - c)) % n))) := by rw [upd_ne hFD]; exact hl6
      have hF5 : H5 F = none := by rw [upd_ne hFD] at hF; exact hF
      generalize upd H6 D (.dK (mkD (o.map fun x => x % n))) = H7 at e56 hl7
      have e17 : Ex H H7 := e13.trans (e5.trans e56)
      dsimp only
      walk_at "rd"
      refine x_slL (e17.sqL se) (cut_hi (by omega)) fun p8 H8 e8 hp8 h8 => ?_
      walk_at "rd"
      refine x_tupL h8 fun p9 H9 e9 hp9 h9 => ?_
      walk_at "rd"
      refine x_lc (x_ilist ?_)
      walk_at "rd"
      have hl9 := (e8.trans e9) _ _ hl7
      refine ⟨⟨_, lOf hl9⟩, ?_⟩
      refine lcfI (Wk.list (lOf hl9)) (fun _ => true) V.int (by rw [List.length_map]; omega) (fun z H' Qb _ e q => q) (fun z H' Qv _ _ e q => ?_) (fun G H10 e10 hG hl10 => ?_)
      · walk_at "rd"; exact q
      rw [List.filter_eq_self.mpr (fun _ _ => rfl)] at hl10
      walk_at "rd"
      refine x_sorted (lOf hl10) fun ns q11 H11 e11 hq11 perm srt h11 => ?_
      walk_at "rd"
      refine x_tupL h11 fun p12 H12 e12 hp12 h12 => ?_
      walk_at "rd"
      have hmem : ∀ y, y ∈ ns ↔ ∃ x ∈ o, (x % n + (b - c)) % n = y := fun y => by
        rw [perm.mem_iff, List.mem_map]
        constructor
        · rintro ⟨z, hz, rfl⟩
          obtain ⟨x, hx, rfl⟩ := List.mem_map.mp ((z3 z).mp hz)
          exact ⟨x, hx, rfl⟩
        · rintro ⟨x, hx, rfl⟩
          exact ⟨x % n, (z3 _).mpr (List.mem_map.mpr ⟨x, hx, rfl⟩), rfl⟩
      have hnd : ns.Nodup := by
        rw [perm.nodup_iff]
        rw [List.Nodup, List.pairwise_map]
        refine z2.imp_of_mem fun {x y} hx hy hne heq => hne ?_
        obtain ⟨x0, _, ex0⟩ := List.mem_map.mp ((z3 x).mp hx)
        obtain ⟨y0, _, ey0⟩ := List.mem_map.mp ((z3 y).mp hy)
        have hx1 : x % n = x := by rw [← ex0]; exact Int.emod_emod_of_dvd _ (Int.dvd_refl n)
        have hy1 : y % n = y := by rw [← ey0]; exact Int.emod_emod_of_dvd _ (Int.dvd_refl n)
        rw [mod_eq_iff] at heq
        have e0 : x + (b - c) - (y + (b - c)) = x - y := by omega
        rw [e0, ← mod_eq_iff, hx1, hy1] at heq
        exact heq
      have hes : (e.take k).Pairwise (· < ·) := w.es.sublist (List.take_sublist _ _)
      have nc := normal_canon (e' := e.take k) (o' := ns) w (by assumption) hs hc0 hcb same stop hes (fun x => take_lt htk hdr) (strict srt hnd) hmem
      have hk2 : ((k : Nat) : Int).toNat = k := by omega
      rw [hk2] at h9
      refine mk_row (r := ⟨e.take k, c, n, ns⟩) (tOf ((e10.trans (e11.trans e12)) _ _ h9)) (tOf h12) ⟨nc.1, by show c ≤ 200000; omega, by show n ≤ 20000; omega⟩ fun x H13 e13' hx R => ?_
      have eall := e17.trans (e8.trans (e9.trans (e10.trans (e11.trans e12))))
      exact h H13 x _ (eall.trans e13') (eall.back hx) R nc.2
    walk_at "rd"
    refine x_iteD (fun cp => ?_) (fun cp => ?_)
    · refine x_whN ?_
      have hse := e14.sqL se
      walk_at "rd"
      have step : ∀ (q : Bool), (q = true ↔ c - 1 ∈ e) → tSeq (tIfS (tTest (tOp rNe (tVar 10) (tDIn (tOp (rI (fun _ j => 0 < j) fun i j => V.int (i % j)) (tOp (rI0 fun i j => V.int (i - j)) (tUn (rU fun i => V.int (-i)) (tC (.int 1))) (tVar 7)) (tVar 4)) (tVar 5)))) tBreak tNext)
          (tAsg (tTup (tCons (tOp (rI0 fun i j => V.int (i - j)) (tVar 6) (tC (.int 1))) (tCons (tOp (rI0 fun i j => V.int (i + j)) (tVar 7) (tC (.int 1))) (tCons (tOp (rI0 fun i j => V.int (i - j)) (tVar 8) (tCB kInt (tCons (tVar 10) tNil))) tNil)))) (gTup K 3 (gCons (gName 6) (gCons (gName 7) (gCons (gName 8) gNil)))))
          { nx := fun σ' H' => ∃ m', m' < c.toNat ∧ ∃ c k u, σ' = [some (.ref pe), some (.int b), some (.int l), some (.ref po), some (.int n), some (.ref D), some (.int c), some (.int (b - c)), some (.int (k : Nat)), none, u, none, none] ∧ Ex H3 H' ∧ m' = c.toNat ∧ 0 ≤ c ∧ c ≤ b ∧ k ≤ e.length ∧ (∀ y ∈ e.take k, y < c) ∧ (∀ y ∈ e.drop k, c ≤ y) ∧ ∀ t, c ≤ t → t < b → decide (t ∈ e) = cyc o n (t - b),
            ct := fun σ' H' => ∃ m', m' < c.toNat ∧ ∃ c k u, σ' = [some (.ref pe), some (.int b), some (.int l), some (.ref po), some (.int n), some (.ref D), some (.int c), some (.int (b - c)), some (.int (k : Nat)), none, u, none, none] ∧ Ex H3 H' ∧ m' = c.toNat ∧ 0 ≤ c ∧ c ≤ b ∧ k ≤ e.length ∧ (∀ y ∈ e.take k, y < c) ∧ (∀ y ∈ e.drop k, c ≤ y) ∧ ∀ t, c ≤ t → t < b → decide (t ∈ e) = cyc o n (t - b),
            bk := tSeq (tLock (tAsg (tLc (iKeys (tVar 5)) (gName 12) tYes (tOp (rI (fun _ j => 0 < j) fun i j => V.int (i % j)) (tOp (rI0 fun i j => V.int (i + j)) (tVar 12) (tVar 7)) (tVar 4)) [12]) (gName 9)))
              (tRet (tMk C (spInit K C) E0 (tCons (tCB (kTuple K) (tCons (L2.tSl (rSlL K) (tVar 0) tNoPart (tPart (tVar 8))) tNil)) (tCons (tVar 6) (tCons (tVar 4) (tCons (tCB (kTuple K) (tCons (tCB (rSortedI K) (tCons (tLc (iList K (tVar 9)) (gName 12) tYes (tCB kInt (tCons (tVar 12) tNil)) [12]) tNil)) tNil)) tNil)))))) { nx := fun x H' => Q V.non H', rt := Q },
            rt := Q } [some (.ref pe), some (.int b), some (.int l), some (.ref po), some (.int n), some (.ref D), some (.int c), some (.int (b - c)), some (.int (k : Nat)), none, some (.bl q), none, none] H4 := fun q hq => by
        walk_at "rd"
        refine x_din (t := (-1 - (b - c)) % n) (p := D) (o := o.map fun x => x % n) (fun P z => ?_) (fun P z => ?_) (.inl (e4 _ _ (e3 _ _ hm))) ?_
        · walk_at "rd"; exact x_rI (by omega) z
        · walk_at "rd"; exact z
        have ecy : decide ((-1 - (b - c)) % n ∈ o.map fun x => x % n) = cyc o n (c - 1 - b) := by
          unfold cyc
          have : -1 - (b - c) = c - 1 - b := by omega
          rw [this]
        rw [ecy]
        refine x_rNe rfl ?_
        walk_at "rd"
        have hqd : q = decide (c - 1 ∈ e) := by rw [Bool.eq_iff_iff, hq, decide_eq_true_iff]
        by_cases ce : q = cyc o n (c - 1 - b)
        · have ed : (!decide (V.bl q = V.bl (cyc o n (c - 1 - b)))) = false := by rw [decide_eq_true (by rw [← ce])]; rfl
          rw [ed]
          refine iteF ?_
          walk_at "rd"
          refine x_tup ?_
          walk_at "rd"
          refine ⟨by show 3 ≤ sizeLine; decide, ?_⟩
          (intro p5 hp5; generalize hX : upd _ p5 _ = H5; have e5 := ex_of hX hp5; have h5 := at_of hX; clear hX)
          refine x_gtup3 (tOf h5) ?_
          have same' : ∀ t, c - 1 ≤ t → t < b → decide (t ∈ e) = cyc o n (t - b) := fun t h1 h2 => by
            by_cases ct : t = c - 1
            · subst ct; rw [← hqd, ce]
            · exact same t (by omega) h2
          have tb := take_back w.es htk hdr hk
          refine ⟨(c - 1).toNat, by omega, c - 1, if q then k - 1 else k, some (.bl q), ?_, e4.trans e5, rfl, by omega, by omega, ?_, ?_, ?_, same'⟩
          · have ek : ((k : Int) - if q = true then 1 else 0) = ((if q then k - 1 else k : Nat) : Int) := by
              cases q with
              | false => simp
              | true =>
                obtain ⟨h0, _⟩ := (last_early w.es htk hdr hk).mp (hq.mp rfl)
                simp; omega
            rw [ek]
            have e6 : b - (c - 1) = b - c + 1 := by omega
            rw [e6]
            rfl
          · split <;> omega
          · cases q with
            | true => exact (tb.1 (hq.mp rfl)).1
            | false => exact (tb.2 (fun z => by have := hq.mpr z; cases this)).1
          · cases q with
            | true => exact (tb.1 (hq.mp rfl)).2
            | false => exact (tb.2 (fun z => by have := hq.mpr z; cases this)).2
        · have ed : (!decide (V.bl q = V.bl (cyc o n (c - 1 - b)))) = true := by rw [decide_eq_false fun z => ce (V.bl.inj z)]; rfl
          rw [ed]
          refine iteT ?_
          walk_at "rd"
          exact out (some (.bl q)) H4 e4 (.inr (by rw [← hqd]; exact ce))
      by_cases ck : (0 : Int) < (k : Nat)
      · rw [decide_eq_true ck]
        refine iteT ?_
        walk_at "rd"
        have hk1 : k - 1 < e.length := by omega
        refine x_ixL hse (atI_zI (by omega) (by omega)) ?_
        walk_at "rd"
        refine x_rEq rfl ?_
        refine x_name ?_
        dsimp only
        refine step _ ?_
        have eg : e.getD ((k : Int) - 1).toNat 0 = e[k - 1] := by
          have : ((k : Int) - 1).toNat = k - 1 := by omega
          rw [this, List.getD_eq_getElem?_getD, List.getElem?_eq_getElem hk1]; rfl
        rw [decide_eq_true_iff, last_early w.es htk hdr hk, eg]
        constructor
        · intro z; exact ⟨by omega, V.int.inj z⟩
        · rintro ⟨_, z⟩; rw [z]
      · rw [decide_eq_false ck]
        refine iteF ?_
        refine x_name ?_
        dsimp only
        refine step false ?_
        rw [last_early w.es htk hdr hk]
        constructor
        · intro z; cases z
        · rintro ⟨z, _⟩; omega
    · exact out u H4 e4 (.inl (by omega))
end
end TkL

namespace TkL
open PySem PySem.Spec PySem.Calls PyProof.Rows L2 Tk
theorem digits_tl : ("0123456789" : Str).cps.toList = [48, 49, 50, 51, 52, 53, 54, 55, 56, 57] := by decide +kernel
theorem rdig_iff {c : Nat} : rdig c = true ↔ 48 ≤ c ∧ c ≤ 57 := by
  unfold rdig
  rw [digits_tl, decide_eq_true_iff]
  constructor
  · intro h
    simp only [List.mem_cons, List.not_mem_nil, or_false] at h
    omega
  · rintro ⟨h1, h2⟩
    have : c = 48 ∨ c = 49 ∨ c = 50 ∨ c = 51 ∨ c = 52 ∨ c = 53 ∨ c = 54 ∨ c = 55 ∨ c = 56 ∨ c = 57 := by omega
    simpa using this
theorem all_digits {w : Str} (h : w.cps.toList.all rdig = true) : NumText.AllDigits w.cps.toList := fun c hc => rdig_iff.mp (List.all_eq_true.mp h c hc)
theorem str_ne {w : Str} (h : 1 ≤ w.length) : w.cps.toList ≠ [] := fun e => by
  have : w.cps.toList.length = 0 := by rw [e]; rfl
  rw [Array.length_toList] at this
  have h2 : w.length = w.cps.size := rfl
  omega
theorem read_ok {w : Str} (h1 : 1 ≤ w.length) (h2 : w.length ≤ 6) (h3 : w.cps.toList.all rdig = true) : intText? w = some ((NumText.digitsVal w.cps.toList : Nat) : Int) := intText_digits (all_digits h3) (str_ne h1) (by omega)
theorem readN_nn {w : Str} {n : Int} (h : readN w = some n) : 0 ≤ n := by
  unfold readN at h
  split at h
  · rename_i c
    rw [read_ok c.1 c.2.1 c.2.2.1] at h
    cases h
    omega
  · cases h
theorem Wk.str {H : Hp} {z : Str} : Wk (Its z) H (z.cps.toList.map fun c => V.str ⟨#[c]⟩) :=
  ⟨fun H' i _ hi => (by rw [List.length_map, Array.length_toList] at hi; exact hi : i < z.cps.size), fun H' i x H'' _ hi ⟨e, c, hc, ex⟩ => ⟨e, by rw [List.getElem?_map, Array.getElem?_toList, hc, ex]; rfl⟩, fun H' i _ hi => (by rw [List.length_map, Array.length_toList] at hi; exact hi : z.cps.size ≤ i)⟩
section
variable {K : PySem.W.Frag} {C : Addr} {H : Hp} {Q : VK} {σ : L2.St}
theorem x_istr {te : TE} {R : It → Hp → Prop} (h : te σ H fun v H1 => ∃ x, v = .str x ∧ R (Its x) H1) : iStr te σ H R := h
theorem x_lenS {z : Str} (hz : z.length ≤ sizeLine) (h : Q (.int z.length) H) : kLenS [.str z] H Q := ⟨z, rfl, hz, h⟩
end
section
variable {K : PySem.W.Frag} {C : Addr}
theorem rdPread_number (T : TyF K C) (vs : List V) (H : Hp) (Q : VK) (E : XK) (h : spReadNumber vs H Q E) : tPread_number K { nx := fun _ H' => Q .non H', rt := Q } (start ["word", "digit"] vs) H := by
  obtain ⟨w, rfl, hz, h⟩ := h
  unfold tPread_number
  walk_at "rd"
  refine x_lenS hz ?_
  walk_at "rd"
  have bad : ∀ H', Ex H H' → readN w = none → Q .non H' := fun H' e hr => by
    have := h H' e
    unfold readV at this
    rw [hr] at this
    exact this
  have none_of : ¬ (1 ≤ w.length ∧ w.length ≤ 6 ∧ w.cps.toList.all rdig = true ∧ ¬ (1 < w.length ∧ w.cps.toList[0]? = some 48)) → readN w = none := fun c => by unfold readN; rw [if_neg c]
  by_cases c1 : (1 : Int) ≤ (w.length : Nat)
  · rw [decide_eq_true c1]
    refine iteT ?_
    walk_at "rd"
    by_cases c2 : ((w.length : Nat) : Int) ≤ 6
    · rw [decide_eq_true c2]
      refine iteF ?_
      walk_at "rd"
      refine x_lc (x_istr ?_)
      walk_at "rd"
      refine ⟨w, rfl, ?_⟩
      have hw6 : w.cps.toList.length ≤ 6 := by rw [Array.length_toList]; have : w.length = w.cps.size := rfl; omega
      refine lcf Wk.str (fun _ => true) (fun v => match v with | .str s => .bl (!s.cps.toList.all rdig) | v => v) (by rw [List.length_map]; omega) (fun i x H' Qb _ e q => q) (fun i x H' Qv hx _ e q => ?_) (fun D H1 e1 hD hl => ?_)
      · obtain ⟨c, hc, rfl⟩ : ∃ c, w.cps.toList[i]? = some c ∧ x = .str ⟨#[c]⟩ := by
          rw [List.getElem?_map] at hx
          cases hh : w.cps.toList[i]? with
          | none => rw [hh] at hx; cases hx
          | some c => rw [hh] at hx; exact ⟨c, rfl, (Option.some.inj hx).symm⟩
        walk_at "rd"
        refine ⟨c, _, rfl, rfl, ?_⟩
        have ec : (!decide (c ∈ ("0123456789" : Str).cps.toList)) = (!(⟨#[c]⟩ : Str).cps.toList.all rdig) := by
          show _ = (!(rdig c && true))
          rw [Bool.and_true]; rfl
        rw [ec]
        exact q
      · have hl2 : H1 D = some (.lst ((w.cps.toList.map fun c => !rdig c).map V.bl)) := by
          rw [hl, List.filter_eq_self.mpr (fun _ _ => rfl), List.map_map, List.map_map]
          congr 2
          apply List.map_congr_left
          intro c _
          show V.bl (!(rdig c && true)) = V.bl (!rdig c)
          rw [Bool.and_true]
        walk_at "rd"
        refine ⟨D, _, rfl, lOf hl2, ?_⟩
        walk_at "rd"
        by_cases c3 : w.cps.toList.all rdig = true
        · have eb : (w.cps.toList.map fun c => !rdig c).any id = false := by
            rw [List.any_map, ← Bool.not_eq_true, List.any_eq_true]
            rintro ⟨c, hc, z⟩
            have := List.all_eq_true.mp c3 c hc
            simp [this] at z
          rw [eb]
          refine iteF ?_
          walk_at "rd"
          refine x_lenS hz ?_
          walk_at "rd"
          have hr := read_ok (w := w) (by omega) (by omega) c3
          have last : ¬ (1 < w.length ∧ w.cps.toList[0]? = some 48) → ∀ H', Ex H H' → kIntS [.str w] H' Q := fun c4 H' e => by
            refine ⟨w, _, rfl, hr, by omega, ?_⟩
            have := h H' e
            unfold readV readN at this
            rw [if_pos ⟨by omega, by omega, c3, c4⟩, hr] at this
            exact this
          refine x_iteD (fun c4 => ?_) (fun c4 => ?_)
          · walk_at "rd"
            have hne := str_ne (w := w) (by omega)
            obtain ⟨d, r, hd⟩ : ∃ d r, w.cps.toList = d :: r := by
              cases hh : w.cps.toList with
              | nil => exact absurd hh hne
              | cons d r => exact ⟨d, r, rfl⟩
            refine ⟨w, 0, d, rfl, rfl, hz, by rw [hd]; simp [atI, ixN], ?_⟩
            walk_at "rd"
            refine x_rEq rfl ?_
            walk_at "rd"
            have e48 : (V.str ⟨#[d]⟩ = V.str "0") ↔ d = 48 := by
              constructor
              · intro z
                have z2 : (⟨#[d]⟩ : Str) = "0" := V.str.inj z
                have z3 : (⟨#[d]⟩ : Str).cps.toList = ("0" : Str).cps.toList := by rw [z2]
                have z4 : ("0" : Str).cps.toList = [48] := by decide +kernel
                rw [z4] at z3
                exact (List.cons.inj z3).1
              · rintro rfl
                have : (⟨#[48]⟩ : Str) = "0" := by decide +kernel
                rw [this]
            refine x_iteD (fun c5 => ?_) (fun c5 => ?_)
            · walk_at "rd"
              refine bad H1 e1 (none_of fun z => z.2.2.2 ⟨by omega, by rw [hd, e48.mp c5]; rfl⟩)
            · walk_at "rd"
              refine last (fun z => c5 (e48.mpr ?_)) H1 e1
              have := z.2
              rw [hd] at this
              exact Option.some.inj this
          · refine iteF ?_
            walk_at "rd"
            exact last (fun z => c4 (by have := z.1; omega)) H1 e1
        · have eb : (w.cps.toList.map fun c => !rdig c).any id = true := by
            rw [List.any_map, List.any_eq_true]
            have : ∃ c ∈ w.cps.toList, rdig c = false := by
              rw [Bool.not_eq_true] at c3
              have := List.all_eq_false.mp c3
              obtain ⟨c, hc, z⟩ := this
              exact ⟨c, hc, by simpa using z⟩
            obtain ⟨c, hc, z⟩ := this
            exact ⟨c, hc, by simp [z]⟩
          rw [eb]
          refine iteT ?_
          walk_at "rd"
          exact bad H1 e1 (none_of fun z => c3 z.2.2.1)
    · rw [decide_eq_false c2]
      refine iteT ?_
      refine iteT ?_
      walk_at "rd"
      exact bad H (Ex.refl H) (none_of fun z => c2 (by have := z.2.1; omega))
  · rw [decide_eq_false c1]
    refine iteF ?_
    walk_at "rd"
    refine iteT ?_
    refine iteT ?_
    walk_at "rd"
    exact bad H (Ex.refl H) (none_of fun z => c1 (by have := z.1; omega))
end
end TkL

namespace TkL
open PySem PySem.Spec PySem.Calls PyProof.Rows L2 Tk
theorem runP_snoc : ∀ (ws : List Str) (i : Nat) (w : Str) (s : PSt), runP i (ws ++ [w]) s = (runP i ws s).bind (stepP (i + ws.length) w)
  | [], i, w, s => by
    show (match stepP i w s with | none => none | some s' => some s') = _
    show _ = stepP (i + 0) w s
    rw [Nat.add_zero]
    cases stepP i w s <;> rfl
  | v :: ws, i, w, s => by
    show (match stepP i v s with | none => none | some s' => runP (i + 1) (ws ++ [w]) s') = (match stepP i v s with | none => none | some s' => runP (i + 1) ws s').bind _
    cases stepP i v s with
    | none => rfl
    | some s' =>
      dsimp only
      rw [runP_snoc ws (i + 1) w s', List.length_cons]
      congr 2
      omega
theorem runP_app : ∀ (ws vs : List Str) (i : Nat) (s : PSt), runP i (ws ++ vs) s = (runP i ws s).bind (runP (i + ws.length) vs)
  | [], vs, i, s => by show runP i vs s = runP (i + 0) vs s; rw [Nat.add_zero]
  | v :: ws, vs, i, s => by
    show (match stepP i v s with | none => none | some s' => runP (i + 1) (ws ++ vs) s') = (match stepP i v s with | none => none | some s' => runP (i + 1) ws s').bind _
    cases stepP i v s with
    | none => rfl
    | some s' =>
      dsimp only
      rw [runP_app ws vs (i + 1) s', List.length_cons]
      congr 2
      omega
structure PInv (i : Nat) (s : PSt) : Prop where
  len : s.1.length ≤ i
  ne : 0 < i → s.1 ≠ []
  nn : ∀ x ∈ s.1, 0 ≤ x
  ps : ∀ x ∈ s.1.drop 1, 1 ≤ x
  fin : s.2 = none → s.1.sum ≤ 100000
  inf : ∀ b, s.2 = some b → 1 ≤ b ∧ b ≤ s.1.length ∧ (s.1.take b).sum ≤ 100000 ∧ (s.1.drop b).sum ≤ 20000
theorem pinv0 : PInv 0 ([], none) := ⟨Nat.le_refl _, fun h => absurd h (Nat.lt_irrefl _), fun _ h => absurd h List.not_mem_nil, fun _ h => absurd h List.not_mem_nil, fun _ => by show (0 : Int) ≤ 100000; decide, fun _ h => by cases h⟩
theorem PInv.step {i : Nat} {w : Str} {s t : PSt} (h : PInv i s) (e : stepP i w s = some t) : PInv (i + 1) t := by
  obtain ⟨ns, bar⟩ := s
  unfold stepP at e
  split at e
  · rename_i c
    cases e
    have hn := h.ne c.2.2
    have hl := List.length_pos_iff.mpr hn
    have hb : bar = none := c.2.1
    exact ⟨Nat.le_succ_of_le h.len, fun _ => hn, h.nn, h.ps, fun z => (by cases z), fun b hb' => by
      cases hb'
      show 1 ≤ ns.length ∧ ns.length ≤ ns.length ∧ (ns.take ns.length).sum ≤ 100000 ∧ (ns.drop ns.length).sum ≤ 20000
      rw [List.take_length, List.drop_length]
      exact ⟨hl, Nat.le_refl _, h.fin hb, by show (0 : Int) ≤ 20000; decide⟩⟩
  · cases hr : readN w with
    | none => rw [hr] at e; cases e
    | some n =>
      rw [hr] at e
      dsimp only at e
      split at e
      · cases e
      · rename_i c
        have n0 := readN_nn hr
        have hlen := h.len
        have base : (ns ++ [n]).length ≤ i + 1 ∧ ns ++ [n] ≠ [] ∧ (∀ x ∈ ns ++ [n], 0 ≤ x) ∧ ∀ x ∈ (ns ++ [n]).drop 1, 1 ≤ x := by
          refine ⟨by rw [List.length_append]; exact Nat.succ_le_succ hlen, by simp, fun x hx => ?_, fun x hx => ?_⟩
          · rcases List.mem_append.mp hx with z | z
            · exact h.nn x z
            · rw [List.mem_singleton.mp z]; exact n0
          · by_cases hi : 0 < i
            · have hn := List.length_pos_iff.mpr (h.ne hi)
              dsimp only at hn
              rw [List.drop_append_of_le_length (by omega)] at hx
              rcases List.mem_append.mp hx with z | z
              · exact h.ps x z
              · rw [List.mem_singleton.mp z]
                have : ¬ (n = 0) := fun z => c (.inl ⟨z, hi⟩)
                omega
            · have : ns = [] := List.eq_nil_of_length_eq_zero (by dsimp only at hlen; omega)
              subst this
              simp at hx
        obtain ⟨b1, b2, b3, b4⟩ := base
        cases hb : bar with
        | none =>
          rw [hb] at e
          dsimp only at e
          split at e
          · cases e
          · rename_i c2
            cases e
            exact ⟨b1, fun _ => b2, b3, b4, fun _ => by dsimp only; omega, fun _ z => by cases z⟩
        | some b =>
          rw [hb] at e
          dsimp only at e
          split at e
          · cases e
          · rename_i c2
            cases e
            obtain ⟨i1, i2, i3, i4⟩ := h.inf b hb
            dsimp only at i2 i3
            refine ⟨b1, fun _ => b2, b3, b4, fun z => (by cases z), fun b' hb' => ?_⟩
            cases hb'
            refine ⟨i1, by rw [List.length_append]; omega, ?_, by dsimp only; omega⟩
            dsimp only
            rw [List.take_append_of_le_length i2]
            exact i3
theorem runP_inv : ∀ (ws : List Str) (i : Nat) (s t : PSt), PInv i s → runP i ws s = some t → PInv (i + ws.length) t
  | [], i, s, t, h, e => by cases e; exact h
  | w :: ws, i, s, t, h, e => by
    have e' : (match stepP i w s with | none => none | some s' => runP (i + 1) ws s') = some t := e
    cases hs : stepP i w s with
    | none => rw [hs] at e'; cases e'
    | some s' =>
      rw [hs] at e'
      have := runP_inv ws (i + 1) s' t (h.step hs) e'
      rw [List.length_cons]
      have e2 : i + (ws.length + 1) = i + 1 + ws.length := by omega
      rw [e2]; exact this
theorem runP_at {ws : List Str} {t : PSt} (h : runP 0 ws ([], none) = some t) {i : Nat} {w : Str} (hi : ws[i]? = some w) : ∃ s s', runP 0 (ws.take i) ([], none) = some s ∧ stepP i w s = some s' ∧ runP 0 (ws.take (i + 1)) ([], none) = some s' := by
  have hl := lt_of_get hi
  have e0 : ws = ws.take (i + 1) ++ ws.drop (i + 1) := (List.take_append_drop _ _).symm
  rw [e0, runP_app] at h
  cases h1 : runP 0 (ws.take (i + 1)) ([], none) with
  | none => rw [h1] at h; cases h
  | some s' =>
    have h2 := h1
    rw [take_succ_of hi, runP_snoc] at h2
    cases h3 : runP 0 (ws.take i) ([], none) with
    | none => rw [h3] at h2; cases h2
    | some s =>
      rw [h3] at h2
      have e1 : 0 + (ws.take i).length = i := by rw [List.length_take]; omega
      rw [e1] at h2
      exact ⟨s, s', rfl, h2, rfl⟩
def barV : Option Nat → V
  | none => .non
  | some b => .int b
theorem rb_never : RB ⟨[], 0, 1, []⟩ ∧ ∀ t, RV.has ⟨[], 0, 1, []⟩ t = false := by
  have fc := finite_canon (e := []) (b := 0) List.Pairwise.nil (fun _ h => absurd h List.not_mem_nil) (.inl ⟨rfl, rfl⟩)
  exact ⟨⟨fc.1, by show (0 : Int) ≤ 200000; decide, by show (1 : Int) ≤ 20000; decide⟩, fun t => by rw [fc.2 t]; rfl⟩
section
variable {K : PySem.W.Frag} {C : Addr} {H : Hp} {Q : VK}
theorem x_sum {p : Addr} {l : List Int} (s : SqL K H p (zI l)) (h : Q (.int l.sum) H) : rSum K [.ref p] H Q := ⟨p, l, rfl, s, h⟩
theorem bar_non {b : Option Nat} : decide (barV b = .non) = b.isNone := by
  cases b with
  | none => rfl
  | some b => exact decide_eq_false fun h => by cases h
theorem split_word {z : Str} {i : Nat} {w : Str} (h : (Txt.split z " ")[i]? = some w) : w.length ≤ z.length + 1 := by
  have a := PyProof.Rows.split_weight z " " (by decide)
  have b : w.length ≤ ((Txt.split z " ").map (·.length)).sum := by
    have hm : w.length ∈ (Txt.split z " ").map (·.length) := List.mem_map.mpr ⟨w, List.mem_of_getElem? h, rfl⟩
    have key : ∀ {l : List Nat} {x : Nat}, x ∈ l → x ≤ l.sum := fun {l} => by
      induction l with
      | nil => intro x h; exact absurd h List.not_mem_nil
      | cons a l ih =>
        intro x h
        rw [List.sum_cons]
        rcases List.mem_cons.mp h with e | h
        · subst e; omega
        · have := ih h; omega
    exact key hm
  omega
end
section
variable {K : PySem.W.Frag} {C : Addr}
theorem rdRparse (T : TyF K C) (vs : List V) (H : Hp) (Q : VK) (E : XK) (h : spParse K C vs H Q E) : tRparse K C { nx := fun _ H' => Q .non H', rt := Q } (start ["cls", "text", "words", "numbers", "bar", "place", "word", "number"] vs) H := by
  obtain ⟨z, S, rfl, hz, hp, h⟩ := h
  unfold tRparse
  walk_at "rd"
  refine x_rEq rfl ?_
  walk_at "rd"
  refine x_iteD (fun c => ?_) (fun c => ?_)
  · have c : z = "never" := V.str.inj c
    have hS : S = fun _ => false := by
      unfold parseSet at hp
      rw [if_pos c] at hp
      exact (Option.some.inj hp).symm
    subst hS
    walk_at "rd"
    refine x_mkV rfl ?_
    walk_at "rd"
    intro p1 H1 e1 hp1 h1
    walk_at "rd"
    intro p2 H2 e2 hp2 h2
    walk_at "rd"
    refine mk_row (r := ⟨[], 0, 1, []⟩) (tOf (e2 _ _ h1)) (tOf h2) rb_never.1 fun x H3 e3 hx R => ?_
    exact h H3 x _ (e1.trans (e2.trans e3)) ((e1.trans e2).back hx) R rb_never.2
  · have c : ¬ z = "never" := fun e => c (by rw [e])
    walk_at "rd"
    refine ⟨rfl, ?_⟩
    walk_at "rd"
    refine ⟨z, " ", rfl, rfl, by decide, by have : (100000 + 2 : Nat) ≤ sizeLine := by decide
                                            omega, ?_⟩
    (intro W hW; generalize hX : upd _ W _ = H1; have e1 := ex_of hX hW; have h1 := at_of hX; clear hX)
    walk_at "rd"
    intro L H2 e2 hL h2
    walk_at "rd"
    unfold parseSet at hp
    rw [if_neg c] at hp
    cases hrun : runP 0 (Txt.split z " ") ([], none) with
    | none => rw [hrun] at hp; cases hp
    | some r =>
    rw [hrun] at hp
    have hlen : (Txt.split z " ").length ≤ 100002 := by have := PyProof.Rows.split_le z " "; omega
    have hne : 0 < (Txt.split z " ").length := by have := PyProof.Rows.split_pos z " "; omega
    generalize hws : Txt.split z " " = ws at *
    have hWL : W ≠ L := fun e => by subst e; rw [h1] at hL; cases hL
    have hLH : H L = none := e1.back hL
    refine x_for (x_enT ?_)
    walk_at "rd"
    refine ⟨_, _, rfl, .inl ⟨lOf (e2 _ _ h1), ?_⟩⟩
    refine for_enL (lOf h1) (fun i σ H' => ∃ ns bar u v w, runP 0 (ws.take i) ([], none) = some (ns, bar) ∧ σ = [some (.ref C), some (.str z), some (.ref W), some (.ref L), some (barV bar), u, v, w] ∧ Ex H1 H' ∧ H' L = some (.lst (zI ns)))
      ⟨[], none, _, _, _, rfl, rfl, e2, h2⟩ (fun i σ H' ⟨_, _, _, _, _, _, _, e, _⟩ => e) ?_ ?_
    · rintro i x σ H3 H4 hx ⟨ns, bar, u, v, w0, hrs, rfl, e3, hl3⟩ e4
      obtain ⟨w, hw, rfl⟩ : ∃ w, ws[i]? = some w ∧ x = .str w := by
        rw [List.getElem?_map] at hx
        cases hh : ws[i]? with
        | none => rw [hh] at hx; cases hx
        | some c => rw [hh] at hx; exact ⟨c, rfl, (Option.some.inj hx).symm⟩
      have hi := lt_of_get hw
      obtain ⟨s, s', q1, q2, q3⟩ := runP_at hrun hw
      rw [hrs] at q1
      cases q1
      have inv := runP_inv _ _ _ _ pinv0 hrs
      have e34 := e3.trans e4
      have hl4 := e4 _ _ hl3
      have nlen : ns.length ≤ 100002 := by have := inv.len; rw [List.length_take] at this; dsimp only at this; omega
      have ewd : (V.str w = V.str "|") ↔ w = "|" := ⟨V.str.inj, fun e => by rw [e]⟩
      walk_at "rd"
      refine x_rEq rfl ?_
      walk_at "rd"
      have num : ¬ (w = "|" ∧ bar = none ∧ 0 < i) → tSeq (tAsg (tDef (spReadNumber) E0 (tCons (tVar 6) tNil)) (gName 7))
          (tSeq (tIfS (tOr (tTest (tOp rIsNon (tVar 7) (tC .non))) (tOr (tAnd (tTest (tOp rEq (tVar 7) (tC (.int 0)))) (tTest (tOp (rI0 fun i j => V.bl (decide (j < i))) (tVar 5) (tC (.int 0))))) (tTest (tOp (rI0 fun i j => V.bl (decide (j < i))) (tVar 7) (tC (.int 100000)))))) tNever tNext)
          (tSeq (tDrop (tBM K "list" rAppend (tVar 3) (tCons (tVar 7) tNil)))
          (tIfS (tOr (tAnd (tTest (tOp rIsNon (tVar 4) (tC .non))) (tTest (tOp (rI0 fun i j => V.bl (decide (j < i))) (tCB (rSum K) (tCons (tVar 3) tNil)) (tC (.int 100000))))) (tAnd (tTest (tOp rNotNon (tVar 4) (tC .non))) (tTest (tOp (rI0 fun i j => V.bl (decide (j < i))) (tCB (rSum K) (tCons (L2.tSl (rSlL K) (tVar 3) (tPart (tVar 4)) tNoPart) tNil)) (tC (.int 20000)))))) tNever tNext)))
          { nx := fun σ H' => ∃ ns bar u v w, runP 0 (ws.take (i + 1)) ([], none) = some (ns, bar) ∧ σ = [some (.ref C), some (.str z), some (.ref W), some (.ref L), some (barV bar), u, v, w] ∧ Ex H1 H' ∧ H' L = some (.lst (zI ns)),
            ct := fun σ H' => ∃ ns bar u v w, runP 0 (ws.take (i + 1)) ([], none) = some (ns, bar) ∧ σ = [some (.ref C), some (.str z), some (.ref W), some (.ref L), some (barV bar), u, v, w] ∧ Ex H1 H' ∧ H' L = some (.lst (zI ns)),
            bk := tSeq (tIfS (tTest (tOp rIsNon (tVar 4) (tC .non))) (tRet (tDef (spRowOfTicks K C) E0 (tCons (tDef (spTicksOf K) E0 (tCons (tVar 3) tNil)) tNil))) tNext)
              (tSeq (tIfS (tTest (tOp rEq (tVar 4) (tCB (kLen K) (tCons (tVar 3) tNil)))) tNever tNext)
              (tRet (tDef (spRowOfLaps K C) E0 (tCons (tOp (rIxL K) (tVar 3) (tC (.int 0))) (tCons (L2.tSl (rSlL K) (tVar 3) (tPart (tC (.int 1))) (tPart (tVar 4))) (tCons (L2.tSl (rSlL K) (tVar 3) (tPart (tVar 4)) tNoPart) tNil)))))) { nx := fun x H' => Q V.non H', rt := Q },
            rt := Q } [some (.ref C), some (.str z), some (.ref W), some (.ref L), some (barV bar), some (.int (i : Nat)), some (.str w), w0] H4 := fun nb => by
        unfold stepP at q2
        rw [if_neg nb] at q2
        cases hr : readN w with
        | none => rw [hr] at q2; cases q2
        | some n =>
        rw [hr] at q2
        dsimp only at q2
        split at q2
        · cases q2
        rename_i cn
        have n0 := readN_nn hr
        walk_at "rd"
        refine ⟨w, rfl, sz_of (by have := split_word (z := z) (hws ▸ hw); omega), fun H5 e5 => ?_⟩
        have hv : readV w = .int n := by unfold readV; rw [hr]
        rw [hv]
        have hl5 := e5 _ _ hl4
        have e35 := e34.trans e5
        walk_at "rd"
        have d1 : decide (V.int n = V.non) = false := decide_eq_false fun z => by cases z
        rw [d1]
        refine iteF ?_
        walk_at "rd"
        refine x_rEq rfl ?_
        walk_at "rd"
        have app : (tSeq (tDrop (tBM K "list" rAppend (tVar 3) (tCons (tVar 7) tNil)))
            (tIfS (tOr (tAnd (tTest (tOp rIsNon (tVar 4) (tC .non))) (tTest (tOp (rI0 fun i j => V.bl (decide (j < i))) (tCB (rSum K) (tCons (tVar 3) tNil)) (tC (.int 100000))))) (tAnd (tTest (tOp rNotNon (tVar 4) (tC .non))) (tTest (tOp (rI0 fun i j => V.bl (decide (j < i))) (tCB (rSum K) (tCons (L2.tSl (rSlL K) (tVar 3) (tPart (tVar 4)) tNoPart) tNil)) (tC (.int 20000)))))) tNever tNext))
            { nx := fun σ H' => ∃ ns bar u v w, runP 0 (ws.take (i + 1)) ([], none) = some (ns, bar) ∧ σ = [some (.ref C), some (.str z), some (.ref W), some (.ref L), some (barV bar), u, v, w] ∧ Ex H1 H' ∧ H' L = some (.lst (zI ns)),
              ct := fun σ H' => ∃ ns bar u v w, runP 0 (ws.take (i + 1)) ([], none) = some (ns, bar) ∧ σ = [some (.ref C), some (.str z), some (.ref W), some (.ref L), some (barV bar), u, v, w] ∧ Ex H1 H' ∧ H' L = some (.lst (zI ns)),
              bk := tSeq (tIfS (tTest (tOp rIsNon (tVar 4) (tC .non))) (tRet (tDef (spRowOfTicks K C) E0 (tCons (tDef (spTicksOf K) E0 (tCons (tVar 3) tNil)) tNil))) tNext)
                (tSeq (tIfS (tTest (tOp rEq (tVar 4) (tCB (kLen K) (tCons (tVar 3) tNil)))) tNever tNext)
                (tRet (tDef (spRowOfLaps K C) E0 (tCons (tOp (rIxL K) (tVar 3) (tC (.int 0))) (tCons (L2.tSl (rSlL K) (tVar 3) (tPart (tC (.int 1))) (tPart (tVar 4))) (tCons (L2.tSl (rSlL K) (tVar 3) (tPart (tVar 4)) tNoPart) tNil)))))) { nx := fun x H' => Q V.non H', rt := Q },
              rt := Q } [some (.ref C), some (.str z), some (.ref W), some (.ref L), some (barV bar), some (.int (i : Nat)), some (.str w), some (.int n)] H5 := by
          walk_at "rd"
          refine x_ty hl5 ?_
          walk_at "rd"
          refine x_appR hl5 (by omega) ?_
          have e36 : Ex H1 (upd H5 L (.lst (zI (ns ++ [n])))) := e35.mut hL
          have hl6 : (upd H5 L (.lst (zI (ns ++ [n])))) L = some (.lst (zI (ns ++ [n]))) := upd_same
          generalize upd H5 L (.lst (zI (ns ++ [n]))) = H6 at e36 hl6
          cases bar with
          | none =>
            dsimp only at q2
            split at q2
            · cases q2
            rename_i cs
            cases q2
            walk_at "rd"
            refine iteT ?_
            walk_at "rd"
            refine x_sum (lOf hl6) ?_
            walk_at "rd"
            rw [decide_eq_false cs]
            refine iteF ?_
            walk_at "rd"
            refine iteF ?_
            walk_at "rd"
            refine iteF ?_
            walk_at "rd"
            exact ⟨_, _, _, _, _, q3, rfl, e36, hl6⟩
          | some b =>
            dsimp only at q2
            split at q2
            · cases q2
            rename_i cs
            cases q2
            walk_at "rd"
            have d2 : decide (V.int (b : Nat) = V.non) = false := decide_eq_false fun z => by cases z
            show if decide (V.int (b : Nat) = V.non) = true then _ else _
            rw [d2]
            refine iteF ?_
            walk_at "rd"
            refine iteF ?_
            walk_at "rd"
            show if (!decide (V.int (b : Nat) = V.non)) = true then _ else _
            rw [d2]
            refine iteT ?_
            walk_at "rd"
            show ∃ k, V.int (b : Nat) = .int k ∧ _
            walk_at "rd"
            refine x_slL (lOf hl6) (cut_lo (by omega)) fun q H7 e7 hq h7 => ?_
            walk_at "rd"
            refine x_sum (lOf h7) ?_
            walk_at "rd"
            rw [Int.toNat_natCast, decide_eq_false cs]
            refine iteF ?_
            walk_at "rd"
            exact ⟨_, some b, _, _, _, q3, rfl, e36.trans e7, e7 _ _ hl6⟩
        by_cases cz : n = 0
        · subst cz
          refine iteT ?_
          walk_at "rd"
          have : ¬ ((0 : Int) < (i : Nat)) := fun z => cn (.inl ⟨rfl, by omega⟩)
          rw [decide_eq_false this]
          refine iteF ?_
          walk_at "rd"
          refine iteF ?_
          exact app
        · have d3 : decide (V.int n = V.int 0) = false := decide_eq_false fun z => cz (V.int.inj z)
          rw [d3]
          refine iteF ?_
          refine iteF ?_
          walk_at "rd"
          have : ¬ (100000 < n) := fun z => cn (.inr z)
          rw [decide_eq_false this]
          refine iteF ?_
          exact app
      refine x_iteD (fun cw => ?_) (fun cw => ?_)
      · have cw := ewd.mp cw
        walk_at "rd"
        rw [bar_non]
        cases bar with
        | some b =>
          refine iteF ?_
          refine iteF ?_
          exact num fun z => by cases z.2.1
        | none =>
          refine iteT ?_
          walk_at "rd"
          by_cases ci : (0 : Int) < (i : Nat)
          · rw [decide_eq_true ci]
            refine iteT ?_
            walk_at "rd"
            refine x_lenL (lOf hl4) ?_
            walk_at "rd"
            unfold stepP at q2
            rw [if_pos ⟨cw, rfl, by omega⟩] at q2
            cases q2
            exact ⟨_, _, _, _, _, q3, rfl, e34, hl4⟩
          · rw [decide_eq_false ci]
            refine iteF ?_
            exact num fun z => ci (by have := z.2.2; omega)
      · refine iteF ?_
        exact num fun z => cw (ewd.mpr z.1)
    · rintro σ H3 ⟨ns, bar, u, v, w, hrs, rfl, e3, hl3⟩
      rw [List.length_map, List.take_length, hrun] at hrs
      cases hrs
      have inv := runP_inv _ _ _ _ pinv0 hrun
      have hns := inv.ne (by omega)
      have e13 := e1.trans e3
      have nlen : ns.length ≤ 100002 := by have := inv.len; dsimp only at this; omega
      obtain ⟨a, l, rfl⟩ : ∃ a l, ns = a :: l := by
        cases ns with
        | nil => exact absurd rfl hns
        | cons a l => exact ⟨a, l, rfl⟩
      have ha : 0 ≤ a := inv.nn a List.mem_cons_self
      have hl : ∀ x ∈ l, 1 ≤ x := inv.ps
      walk_at "rd"
      rw [bar_non]
      cases bar with
      | none =>
        dsimp only at hp
        cases hp
        have hs := inv.fin rfl
        dsimp only at hs
        rw [List.sum_cons] at hs
        refine iteT ?_
        walk_at "rd"
        refine ⟨L, _, rfl, lOf hl3, by simp, by omega, fun H4 q e4 hq hq4 => ?_⟩
        walk_at "rd"
        refine ⟨q, ticksOf (a :: l), rfl, lOf hq4, tks_ne, tks_pair hl, fun x hx => by have := tks_range hl x hx; omega, fun H5 p r e5 hp5 R hr => ?_⟩
        exact h H5 p r (e13.trans (e4.trans e5)) ((e13.trans e4).back hp5) R hr
      | some b =>
        obtain ⟨i1, i2, i3, i4⟩ := inv.inf b rfl
        dsimp only at hp i2 i3 i4
        split at hp
        · cases hp
        rename_i cb
        cases hp
        refine iteF ?_
        walk_at "rd"
        refine x_lenL (lOf hl3) ?_
        show rEq (V.int (b : Nat)) _ _ _
        refine x_rEq rfl ?_
        walk_at "rd"
        have d4 : decide (V.int (b : Nat) = V.int ((a :: l).length : Nat)) = false := decide_eq_false fun z => cb (by have := V.int.inj z; omega)
        rw [d4]
        refine iteF ?_
        walk_at "rd"
        refine x_ixL (lOf hl3) (atI_zI (by omega) (by simp)) ?_
        walk_at "rd"
        show ∃ k, V.int (b : Nat) = .int k ∧ _
        walk_at "rd"
        refine x_slL (lOf hl3) (cut_lh (by omega) (by omega)) fun q4 H4 e4 hq4 h4 => ?_
        walk_at "rd"
        show ∃ k, V.int (b : Nat) = .int k ∧ _
        walk_at "rd"
        refine x_slL (lOf (e4 _ _ hl3)) (cut_lo (by omega)) fun q5 H5 e5 hq5 h5 => ?_
        walk_at "rd"
        have eb : ((b : Nat) : Int).toNat = b := by omega
        have eb1 : (1 : Int).toNat = 1 := rfl
        have tk : (a :: l).take b = a :: ((a :: l).drop 1).take (b - 1) := by
          obtain ⟨b', rfl⟩ : ∃ b', b = b' + 1 := ⟨b - 1, by omega⟩
          rfl
        rw [tk, List.sum_cons] at i3
        rw [eb, eb1] at h4
        rw [eb] at h5
        have hd1 : ∀ x ∈ ((a :: l).drop 1).take (b - 1), 1 ≤ x := fun x hx => hl x (List.mem_of_mem_take hx)
        have hd2 : ∀ x ∈ (a :: l).drop b, 1 ≤ x := fun x hx => by
          obtain ⟨b', rfl⟩ : ∃ b', b = b' + 1 := ⟨b - 1, by omega⟩
          exact hl x (List.mem_of_mem_drop (i := b') hx)
        refine ⟨_, q4, q5, _, _, rfl, .inl (lOf (e5 _ _ h4)), .inl (lOf h5), ha, hd1, hd2, fun z => ?_, by show a + _ ≤ 200000; omega, i4, fun H6 p r e6 hp6 R hr => ?_⟩
        · have : ((a :: l).drop b).length = 0 := by rw [z]; rfl
          rw [List.length_drop] at this
          omega
        · exact h H6 p r (e13.trans (e4.trans (e5.trans e6))) ((e13.trans (e4.trans e5)).back hp6) R hr
end
end TkL

namespace TkL
open PySem PySem.Spec PySem.Calls PyProof.Rows L2 Tk
def numS (i : Int) : Str := Str.ofString (toString i)
theorem numS_S {i : Int} (h : 0 ≤ i) : numS i = SX.S (TL.numL i.toNat) := by
  obtain ⟨n, rfl⟩ : ∃ n : Nat, i = n := ⟨i.toNat, by omega⟩
  exact SX.num_S n
theorem numS_len {i : Int} (h0 : 0 ≤ i) (h1 : i < 1000000) : 1 ≤ (numS i).length ∧ (numS i).length ≤ 6 := by
  rw [numS_S h0, SX.S_len]
  exact ⟨List.length_pos_iff.mpr (TL.numL_ne _), TL.numL_len (k := 6) (by omega) (by omega)⟩
theorem numL_head : ∀ (n : Nat), 1 ≤ n → (TL.numL n)[0]? ≠ some 48 := fun n => by
  induction n using Nat.strongRecOn with
  | ind n ih =>
    intro h1 h
    by_cases c : n < 10
    · rw [TL.numL_lt c] at h
      have := Option.some.inj h
      omega
    · rw [TL.numL_step (by omega), List.getElem?_append_left (List.length_pos_iff.mpr (TL.numL_ne _))] at h
      exact ih (n / 10) (by omega) (by omega) h
theorem readN_num {i : Int} (h0 : 0 ≤ i) (h1 : i < 1000000) : readN (numS i) = some i := by
  obtain ⟨n, rfl⟩ : ∃ n : Nat, i = n := ⟨i.toNat, by omega⟩
  have hl := numS_len h0 h1
  have e : (numS (n : Nat)).cps.toList = TL.numL n := TL.tl_num n
  have c1 : (numS (n : Nat)).cps.toList.all rdig = true := by
    rw [e, List.all_eq_true]
    intro c hc
    exact rdig_iff.mpr (TL.numL_digits n c hc)
  have c2 : ¬ (1 < (numS (n : Nat)).length ∧ (numS (n : Nat)).cps.toList[0]? = some 48) := by
    rintro ⟨a, b⟩
    rw [e] at b
    by_cases c : n = 0
    · subst c
      rw [numS_S h0, SX.S_len] at a
      rw [show ((0 : Nat) : Int).toNat = 0 from rfl, TL.numL_lt (by omega)] at a
      simp at a
    · exact numL_head n (by omega) b
  unfold readN
  rw [if_pos ⟨hl.1, hl.2, c1, c2⟩]
  exact TL.int_num (by have := TL.numL_len (n := n) (k := 6) (by omega) (by omega); omega)
theorem numS_ne_bar {i : Int} (h0 : 0 ≤ i) : numS i ≠ "|" := fun h => by
  have e : (numS i).cps.toList = TL.numL i.toNat := by rw [numS_S h0]
  have e2 : ("|" : Str).cps.toList = [124] := by decide +kernel
  rw [h, e2] at e
  exact TL.numL_free (n := i.toNat) (s := 124) (by omega) (by rw [← e]; simp)
theorem stepP_num {i : Nat} {n : Int} {ns : List Int} (h0 : 0 ≤ n) (hi : 0 < i → 1 ≤ n) (hs : (ns ++ [n]).sum ≤ 100000) (hn : n ≤ 100000) : stepP i (numS n) (ns, none) = some (ns ++ [n], none) := by
  unfold stepP
  rw [if_neg fun z => numS_ne_bar h0 z.1, readN_num h0 (by omega)]
  dsimp only
  rw [if_neg (by rintro (⟨a, b⟩ | a) <;> omega), if_neg (by omega)]
theorem stepP_num2 {i : Nat} {n : Int} {ns : List Int} {b : Nat} (h0 : 1 ≤ n) (hs : ((ns ++ [n]).drop b).sum ≤ 20000) (hn : n ≤ 100000) : stepP i (numS n) (ns, some b) = some (ns ++ [n], some b) := by
  unfold stepP
  rw [if_neg fun z => numS_ne_bar (by omega) z.1, readN_num (by omega) (by omega)]
  dsimp only
  rw [if_neg (by rintro (⟨a, b⟩ | a) <;> omega), if_neg (by omega)]
theorem sum_app (l m : List Int) : (l ++ m).sum = l.sum + m.sum := by
  induction l with
  | nil => simp
  | cons a l ih => rw [List.cons_append, List.sum_cons, List.sum_cons, ih]; omega
theorem sum_nn {l : List Int} (h : ∀ x ∈ l, 1 ≤ x) : 0 ≤ l.sum := by have := sum_ge h; omega
theorem runP_nums : ∀ (l : List Int) (i : Nat) (ns : List Int), 0 < i → (∀ x ∈ l, 1 ≤ x) → (∀ x ∈ ns, 0 ≤ x) → ns.sum + l.sum ≤ 100000 → 0 ≤ ns.sum → runP i (l.map numS) (ns, none) = some (ns ++ l, none)
  | [], i, ns, _, _, _, _, _ => by show some _ = _; rw [List.append_nil]
  | a :: l, i, ns, hi, hl, hn, hs, h0 => by
    have ha := hl a List.mem_cons_self
    have hl' : ∀ x ∈ l, 1 ≤ x := fun x hx => hl x (List.mem_cons_of_mem _ hx)
    have hs0 := sum_nn hl'
    rw [List.sum_cons] at hs
    show (match stepP i (numS a) (ns, none) with | none => none | some s' => runP (i + 1) (l.map numS) s') = _
    have e1 : (ns ++ [a]).sum = ns.sum + a := by rw [sum_app]; simp
    rw [stepP_num (by omega) (fun _ => ha) (by omega) (by omega)]
    dsimp only
    rw [runP_nums l (i + 1) (ns ++ [a]) (by omega) hl' (fun x hx => by
      rcases List.mem_append.mp hx with z | z
      · exact hn x z
      · rw [List.mem_singleton.mp z]; omega) (by omega) (by omega), List.append_assoc]
    rfl
theorem runP_nums2 : ∀ (l : List Int) (i : Nat) (ns : List Int) (b : Nat), b ≤ ns.length → (∀ x ∈ l, 1 ≤ x) → (ns.drop b).sum + l.sum ≤ 20000 → 0 ≤ (ns.drop b).sum → runP i (l.map numS) (ns, some b) = some (ns ++ l, some b)
  | [], i, ns, b, _, _, _, _ => by show some _ = _; rw [List.append_nil]
  | a :: l, i, ns, b, hb, hl, hs, h0 => by
    have ha := hl a List.mem_cons_self
    have hl' : ∀ x ∈ l, 1 ≤ x := fun x hx => hl x (List.mem_cons_of_mem _ hx)
    have hs0 := sum_nn hl'
    rw [List.sum_cons] at hs
    show (match stepP i (numS a) (ns, some b) with | none => none | some s' => runP (i + 1) (l.map numS) s') = _
    have e1 : ((ns ++ [a]).drop b).sum = (ns.drop b).sum + a := by rw [List.drop_append_of_le_length hb, sum_app]; simp
    rw [stepP_num2 (by omega) (by omega) (by omega)]
    dsimp only
    rw [runP_nums2 l (i + 1) (ns ++ [a]) b (by rw [List.length_append]; omega) hl' (by omega) (by omega), List.append_assoc]
    rfl
def planWords (s : Int) (fs ls : List Int) : List Str := (s :: fs).map numS ++ (("|" : Str) :: ls.map numS)
theorem run_plan {s : Int} {fs ls : List Int} (h0 : 0 ≤ s) (hf : ∀ x ∈ fs, 1 ≤ x) (hl : ∀ x ∈ ls, 1 ≤ x) (h1 : s + fs.sum ≤ 100000) (h2 : ls.sum ≤ 20000) :
    runP 0 (planWords s fs ls) ([], none) = some ((s :: fs) ++ ls, some (fs.length + 1)) := by
  have g1 := sum_nn hf
  have g2 := sum_nn hl
  unfold planWords
  rw [runP_app]
  have a1 : runP 0 ((s :: fs).map numS) ([], none) = some (s :: fs, none) := by
    show (match stepP 0 (numS s) ([], none) with | none => none | some s' => runP 1 (fs.map numS) s') = _
    rw [stepP_num h0 (fun z => absurd z (Nat.lt_irrefl _)) (by simp; omega) (by omega)]
    dsimp only
    rw [runP_nums fs 1 ([] ++ [s]) (by omega) hf (fun x hx => by simp at hx; omega) (by simp; omega) (by simp; omega)]
    rfl
  rw [a1]
  show runP (0 + ((s :: fs).map numS).length) (("|" : Str) :: ls.map numS) (s :: fs, none) = _
  show (match stepP (0 + ((s :: fs).map numS).length) "|" (s :: fs, none) with | none => none | some s' => runP (0 + ((s :: fs).map numS).length + 1) (ls.map numS) s') = _
  have a2 : stepP (0 + ((s :: fs).map numS).length) "|" (s :: fs, none) = some (s :: fs, some (fs.length + 1)) := by
    unfold stepP
    rw [if_pos ⟨rfl, rfl, by simp⟩]
    rfl
  rw [a2]
  dsimp only
  have hd : (s :: fs).drop (fs.length + 1) = [] := List.drop_eq_nil_of_le (by simp)
  exact runP_nums2 ls _ (s :: fs) (fs.length + 1) (by simp) hl (by rw [hd]; simp; omega) (by rw [hd]; simp)
theorem sp_S : (" " : Str) = SX.S [32] := by decide +kernel
theorem bar_S : ("|" : Str) = SX.S [124] := by decide +kernel
theorem split_join {ws : List (List Nat)} (hne : ws ≠ []) (h : ∀ p ∈ ws, 32 ∉ p) : Txt.split (Txt.join " " (ws.map SX.S)) " " = ws.map SX.S := by
  rw [sp_S, SX.join_S, SX.split_S (by simp) (by decide), SX.spl_join hne h]
def numLs (l : List Int) : List (List Nat) := l.map fun i => TL.numL i.toNat
theorem map_numS {l : List Int} (h : ∀ x ∈ l, 0 ≤ x) : l.map numS = (numLs l).map SX.S := by
  unfold numLs
  rw [List.map_map]
  apply List.map_congr_left
  intro x hx
  exact numS_S (h x hx)
theorem words_S {s : Int} {fs ls : List Int} (h0 : 0 ≤ s) (hf : ∀ x ∈ fs, 1 ≤ x) (hl : ∀ x ∈ ls, 1 ≤ x) : planWords s fs ls = (numLs (s :: fs) ++ ([124] :: numLs ls)).map SX.S := by
  unfold planWords
  rw [map_numS (l := s :: fs) (fun x hx => by
    rcases List.mem_cons.mp hx with e | e
    · omega
    · have := hf x e; omega), map_numS (l := ls) (fun x hx => by have := hl x hx; omega), List.map_append, bar_S]
  rfl
theorem free_nums {l : List Int} : ∀ p ∈ numLs l, 32 ∉ p := fun p hp => by
  obtain ⟨i, _, rfl⟩ := List.mem_map.mp hp
  exact TL.numL_free (by omega)
theorem split_plan {s : Int} {fs ls : List Int} (h0 : 0 ≤ s) (hf : ∀ x ∈ fs, 1 ≤ x) (hl : ∀ x ∈ ls, 1 ≤ x) : Txt.split (Txt.join " " (planWords s fs ls)) " " = planWords s fs ls := by
  rw [words_S h0 hf hl]
  refine split_join (by simp) fun p hp => ?_
  rcases List.mem_append.mp hp with z | z
  · exact free_nums p z
  · rcases List.mem_cons.mp z with e | e
    · subst e; decide
    · exact free_nums p e
theorem never_split : Txt.split "never" " " = [("never" : Str)] := by
  have e : ("never" : Str) = SX.S [110, 101, 118, 101, 114] := by decide +kernel
  have e2 := split_join (ws := [[110, 101, 118, 101, 114]]) (by simp) (fun p hp => by rw [List.mem_singleton.mp hp]; decide)
  have e3 : Txt.join " " ([[110, 101, 118, 101, 114]].map SX.S) = SX.S [110, 101, 118, 101, 114] := by rw [sp_S, SX.join_S]; rfl
  rw [e3] at e2
  rw [e, e2]
  rfl
theorem parse_plan {s : Int} {fs ls : List Int} (h0 : 0 ≤ s) (hf : ∀ x ∈ fs, 1 ≤ x) (hl : ∀ x ∈ ls, 1 ≤ x) (hn : ls ≠ []) (h1 : s + fs.sum ≤ 100000) (h2 : ls.sum ≤ 20000) : parseSet (Txt.join " " (planWords s fs ls)) = some (planHas s fs ls) := by
  have hnl := List.length_pos_iff.mpr hn
  unfold parseSet
  rw [if_neg, split_plan h0 hf hl, run_plan h0 hf hl h1 h2]
  · dsimp only
    rw [if_neg (by simp; omega)]
    congr 2
    · simp [List.take_append]
    · simp [List.drop_append]
  · intro z
    have a := split_plan h0 hf hl
    rw [z, never_split] at a
    have b : (planWords s fs ls).length = 1 := by rw [← a]; rfl
    unfold planWords at b
    rw [List.length_append, List.length_cons, List.length_map, List.length_map] at b
    omega
theorem joinL_len : ∀ (ws : List (List Nat)) (k : Nat), (∀ p ∈ ws, p.length ≤ k) → (TL.joinL [32] ws).length ≤ ws.length * (k + 1)
  | [], _, _ => Nat.zero_le _
  | [p], k, h => by
    have := h p (by simp)
    show p.length ≤ 1 * (k + 1)
    omega
  | p :: q :: r, k, h => by
    have a := h p (by simp)
    have b := joinL_len (q :: r) k (fun x hx => h x (List.mem_cons_of_mem _ hx))
    show (p ++ ([32] ++ TL.joinL [32] (q :: r))).length ≤ ((q :: r).length + 1) * (k + 1)
    rw [List.length_append, List.length_append, Nat.add_mul]
    simp only [List.length_singleton]
    omega
theorem wsum_le : ∀ (ws : List Str) (k : Nat), (∀ p ∈ ws, p.length ≤ k) → (ws.map (·.length)).sum ≤ ws.length * k
  | [], _, _ => by simp
  | p :: r, k, h => by
    have a := h p (by simp)
    have b := wsum_le r k (fun x hx => h x (List.mem_cons_of_mem _ hx))
    rw [List.map_cons, List.sum_cons, List.length_cons, Nat.add_mul]
    omega
theorem planWords_len {s : Int} {fs ls : List Int} : (planWords s fs ls).length = fs.length + ls.length + 2 := by
  unfold planWords
  simp
  omega
theorem word_len {s : Int} {fs ls : List Int} (h0 : 0 ≤ s) (h1 : s < 1000000) (hf : ∀ x ∈ fs, 1 ≤ x ∧ x < 1000000) (hl : ∀ x ∈ ls, 1 ≤ x ∧ x < 1000000) : ∀ p ∈ planWords s fs ls, p.length ≤ 6 := by
  intro p hp
  unfold planWords at hp
  have num : ∀ i : Int, 0 ≤ i → i < 1000000 → (numS i).length ≤ 6 := fun i a b => (numS_len a b).2
  rcases List.mem_append.mp hp with z | z
  · obtain ⟨i, hi, rfl⟩ := List.mem_map.mp z
    rcases List.mem_cons.mp hi with e | e
    · subst e; exact num _ h0 h1
    · have := hf i e; exact num _ (by omega) (by omega)
  · rcases List.mem_cons.mp z with z | z
    · rw [z]; decide
    · obtain ⟨i, hi, rfl⟩ := List.mem_map.mp z
      have := hl i hi; exact num _ (by omega) (by omega)
theorem join_len {ws : List Str} {k : Nat} (h : ∀ p ∈ ws, p.length ≤ k) : (Txt.join " " ws).length ≤ ws.length * (k + 1) := by
  have e : ws = (ws.map fun w => w.cps.toList).map SX.S := by
    rw [List.map_map]
    conv => lhs; rw [← List.map_id ws]
    apply List.map_congr_left
    intro w _
    exact (SX.S_tl w).symm
  rw [e, sp_S, SX.join_S, SX.S_len, List.length_map]
  refine joinL_len _ k fun p hp => ?_
  obtain ⟨w, hw, rfl⟩ := List.mem_map.mp hp
  rw [Array.length_toList]
  exact h w hw
end TkL

namespace TkL
open PySem PySem.Spec PySem.Calls PyProof.Rows L2 Tk
section
variable {K : PySem.W.Frag} {C : Addr} {H H' : Hp} {Q : VK} {d : Addr}
theorem Kp.refl : Kp d H H := fun _ _ _ h => h
theorem Kp.trans {H1 : Hp} (a : Kp d H H1) (b : Kp d H1 H') : Kp d H H' := fun x o hx h => b x o hx (a x o hx h)
theorem Ex.kp (e : Ex H H') : Kp d H H' := fun x o _ h => e x o h
theorem DAt.ex (D : DAt d H) (e : Ex H H') : DAt d H' := by obtain ⟨ds, h, w⟩ := D; exact ⟨ds, e _ _ h, w⟩
theorem kp_ne {p : Addr} {o : HO} (D : DAt d H) (h : H p = some o) (ho : ∀ xs, o ≠ .lst xs) : p ≠ d := fun e => by
  obtain ⟨ds, hd, _⟩ := D
  subst e
  rw [hd] at h
  cases h
  exact ho _ rfl
theorem SqT.kp {p : Addr} {xs : List V} (s : SqT K H p xs) (D : DAt d H) (k : Kp d H H') : SqT K H' p xs := by
  rcases s with (s | ⟨o, s⟩) | s
  · exact .inl (.inl (k _ _ (kp_ne D s fun _ z => by cases z) s))
  · exact .inl (.inr ⟨o, k _ _ (kp_ne D s fun _ z => by cases z) s⟩)
  · exact .inr s
theorem RowAt.kp {a : Addr} {r : RV} (R : RowAt K C H a r) (D : DAt d H) (k : Kp d H H') : RowAt K C H' a r := by
  obtain ⟨dx, p1, p2, p3, p4, I⟩ := R
  exact ⟨dx, p1, p2, p3, p4, k _ _ (kp_ne D I.ob fun _ z => by cases z) I.ob, SqT.kp I.e D k, SqT.kp I.o D k, k _ _ (kp_ne D I.m fun _ z => by cases z) I.m, SqT.kp I.p D k, I.rb⟩
theorem kp_none {p : Addr} (D : DAt d H) (k : Kp d H H') (h : H' p = none) (hd : p ≠ d) : H p = none := by
  cases h1 : H p with
  | none => rfl
  | some o => rw [k p o hd h1] at h; cases h
theorem kp_set {o : HO} : Kp d H (upd H d o) := fun x u hx h => by rw [upd_ne hx]; exact h
end
theorem ixN_z {l : List Int} {i : Int} (h0 : 0 ≤ i) (h1 : i < l.length) : ixN (zI l).length i = some i.toNat := by
  unfold ixN
  rw [zI_len, if_pos h0, if_pos h1]
theorem pow18 : ((10 : Int) ^ (18 : Int).toNat) = 1000000000000000000 := by decide
theorem pow6 : ((10 : Int) ^ (6 : Int).toNat) = 1000000 := by decide
section
variable {K : PySem.W.Frag} {C : Addr}
theorem rdLrandom (T : TyF K C) (vs : List V) (H : Hp) (Q : VK) (E : XK) (h : spRandom K vs H Q E) : tLrandom K { nx := fun _ H' => Q .non H', rt := Q } (start ["_law_script", "_law_salt", "_law_seed", "_law_cell"] vs) H := by
  obtain ⟨p, ns, salt, rfl, s, hz, h0, h1, h⟩ := h
  unfold tLrandom
  walk_at "rd"
  refine x_for (x_ilist ?_)
  walk_at "rd"
  refine ⟨⟨_, s⟩, ?_⟩
  refine for_wk (H0 := H) (Wk.list s) (fun i σ H' => ∃ sd u, σ = [some (.ref p), some (.int salt), some (.int sd), u] ∧ H' = H ∧ 0 ≤ sd ∧ sd < 2147483647) ⟨salt, _, rfl, rfl, h0, by omega⟩ (fun i σ H' ⟨_, _, _, e, _⟩ => by rw [e]; exact Ex.refl _) ?_ ?_
  · rintro i x σ H1 hx ⟨sd, u, rfl, rfl, s0, s1⟩
    obtain ⟨n, hn, rfl⟩ := zI_get hx
    walk_at "rd"
    refine x_rI (.inl (by omega)) ?_
    walk_at "rd"
    refine ⟨n, rfl, ?_⟩
    walk_at "rd"
    refine x_rI (by decide) ?_
    walk_at "rd"
    exact ⟨_, _, rfl, rfl, Int.emod_nonneg _ (by decide), Int.emod_lt_of_pos _ (by decide)⟩
  · rintro σ H1 ⟨sd, u, rfl, rfl, s0, s1⟩
    walk_at "rd"
    refine x_lst ?_
    walk_at "rd"
    refine ⟨by show 2 ≤ sizeLine; decide, ?_⟩
    (intro A hA; generalize hX : upd _ A _ = H1; have e1 := ex_of hX hA; have hA1 := at_of hX; clear hX)
    walk_at "rd"
    refine x_lc (x_ilist ?_)
    walk_at "rd"
    have s1' := e1.sqL s
    refine ⟨⟨_, s1'⟩, ?_⟩
    refine lcfI (Wk.list s1') (fun n => decide (1000000000000000000 ≤ n)) V.int (by omega) (fun n H' Qb _ e q => ?_) (fun n H' Qv _ _ e q => ?_) (fun D H2 e2 hD hl => ?_)
    · walk_at "rd"
      refine x_rI ⟨by decide, by decide, by decide⟩ ?_
      walk_at "rd"
      rw [pow18]
      exact q
    · walk_at "rd"; exact q
    · refine x_cat (l := [sd, 0]) (m := ns.filter fun n => decide (1000000000000000000 ≤ n)) (e2 _ _ hA1) hl (by have := List.length_filter_le (fun n => decide (1000000000000000000 ≤ n)) ns; simp; omega) fun r H3 e3 hr h3 => ?_
      refine h H3 r (e1.trans (e2.trans e3)) ((e1.trans e2).back hr) ⟨_, h3, by simp, fun x hx => ?_, by simpa using s1⟩
      rcases List.mem_append.mp hx with z | z
      · simp at z
        rcases z with z | z
        · subst z; exact s0
        · subst z; exact Int.le_refl _
      · have := (List.mem_filter.mp z).2
        have := of_decide_eq_true this
        omega
theorem rdLbelow (T : TyF K C) (vs : List V) (H : Hp) (Q : VK) (E : XK) (h : spBelow vs H Q E) : tLbelow K { nx := fun _ H' => Q .non H', rt := Q } (start ["_law_d", "_law_limit", "_law_result"] vs) H := by
  obtain ⟨d, n, rfl, ⟨ds, hd, wf⟩, n0, n1, h⟩ := h
  obtain ⟨a, b, l, rfl⟩ : ∃ a b l, ds = a :: b :: l := by
    have := wf.l2
    match ds, this with
    | a :: b :: l, _ => exact ⟨a, b, l, rfl⟩
  have ha := wf.nn a (by simp)
  have hb := wf.nn b (by simp)
  have hl : ∀ x ∈ l, 0 ≤ x := fun x hx => wf.nn x (by simp [hx])
  have hsm : a < 2147483647 := wf.sm
  unfold tLbelow
  walk_at "rd"
  have rest : ∀ (b : Int) (l : List Int) (H1 : Hp), 0 ≤ b → (∀ x ∈ l, 0 ≤ x) → Kp d H H1 → H1 d = some (.lst (zI (a :: b :: l))) →
      tSeq (tIfS (tTest (tOp (rI0 fun i j => V.bl (decide (j < i))) (tOp (rIxL K) (tVar 0) (tC (.int 1))) (tC (.int 0)))) (tSeq (tAsg (tOp (rI (fun _ j => 0 < j) fun i j => V.int (i % j)) (tOp (rIxL K) (tVar 0) (tC (.int 1))) (tVar 1)) (gName 2))
    (tSeq (tAsg (tOp (rI CDiv fun i j => V.int (i / j)) (tOp (rIxL K) (tVar 0) (tC (.int 1))) (tVar 1)) (gSub (tVar 0) (tC (.int 1)) rSetL))
    (tRet (tVar 2)))) tNext)
    (tSeq (tAsg (tOp (rI (fun _ j => 0 < j) fun i j => V.int (i % j)) (tOp (rI0 fun i j => V.int (i + j)) (tOp (rI CMul fun i j => V.int (i * j)) (tOp (rIxL K) (tVar 0) (tC (.int 0))) (tC (.int 48271))) (tC (.int 11))) (tC (.int 2147483647))) (gSub (tVar 0) (tC (.int 0)) rSetL))
    (tRet (tOp (rI (fun _ j => 0 < j) fun i j => V.int (i % j)) (tOp (rI CDiv fun i j => V.int (i / j)) (tOp (rIxL K) (tVar 0) (tC (.int 0))) (tC (.int 64))) (tVar 1)))) { nx := fun _ H' => Q .non H', rt := Q } [some (.ref d), some (.int n), none] H1 := fun b l H1 hb hl k h1 => by
    walk_at "rd"
    refine x_ixL (v := .int b) (lOf h1) (atI_zI (by omega) (by simp only [List.length_cons]; omega)) ?_
    walk_at "rd"
    refine x_iteD (fun c => ?_) (fun c => ?_)
    · walk_at "rd"
      refine x_ixL (v := .int b) (lOf h1) (atI_zI (by omega) (by simp only [List.length_cons]; omega)) ?_
      walk_at "rd"
      refine x_rI n0 ?_
      walk_at "rd"
      refine x_ixL (v := .int b) (lOf h1) (atI_zI (by omega) (by simp only [List.length_cons]; omega)) ?_
      walk_at "rd"
      refine x_rI ⟨n0, n1⟩ ?_
      walk_at "rd"
      refine ⟨_, rfl, d, _, _, 1, rfl, rfl, h1, ixN_z (by omega) (by simp only [List.length_cons]; omega), ?_⟩
      walk_at "rd"
      have hs : (zI (a :: b :: l)).set 1 (V.int (b / n)) = zI (a :: (b / n) :: l) := rfl
      rw [hs]
      refine h _ _ (k.trans kp_set) ⟨_, upd_same, by simp, fun x hx => ?_, hsm⟩ (Int.emod_nonneg _ (by omega)) (Int.emod_lt_of_pos _ n0)
      rcases List.mem_cons.mp hx with z | hx
      · omega
      · rcases List.mem_cons.mp hx with z | hx
        · rw [z]; exact Int.ediv_nonneg hb (by omega)
        · exact hl x hx
    · walk_at "rd"
      refine x_ixL (v := .int a) (lOf h1) (atI_zI (by omega) (by simp only [List.length_cons]; omega)) ?_
      walk_at "rd"
      refine x_rI (.inl (by omega)) ?_
      walk_at "rd"
      refine x_rI (by decide) ?_
      refine ⟨_, rfl, d, _, _, 0, rfl, rfl, h1, ixN_z (by omega) (by simp only [List.length_cons]; omega), ?_⟩
      have hs : (zI (a :: b :: l)).set 0 (V.int ((a * 48271 + 11) % 2147483647)) = zI (((a * 48271 + 11) % 2147483647) :: b :: l) := rfl
      rw [hs]
      have r0 : 0 ≤ (a * 48271 + 11) % 2147483647 := Int.emod_nonneg _ (by decide)
      have r1 : (a * 48271 + 11) % 2147483647 < 2147483647 := Int.emod_lt_of_pos _ (by decide)
      generalize (a * 48271 + 11) % 2147483647 = a' at *
      walk_at "rd"
      refine x_ixL (v := .int a') (lOf upd_same) (atI_zI (by omega) (by simp only [List.length_cons]; omega)) ?_
      walk_at "rd"
      refine x_rI ⟨by decide, by decide⟩ ?_
      walk_at "rd"
      refine x_rI n0 ?_
      refine h _ _ (k.trans kp_set) ⟨_, upd_same, by simp, fun x hx => ?_, r1⟩ (Int.emod_nonneg _ (by omega)) (Int.emod_lt_of_pos _ n0)
      rcases List.mem_cons.mp hx with z | hx
      · omega
      · rcases List.mem_cons.mp hx with z | hx
        · omega
        · exact hl x hx
  refine x_ixL (v := .int b) (lOf hd) (atI_zI (by omega) (by simp only [List.length_cons]; omega)) ?_
  walk_at "rd"
  refine x_rEq rfl ?_
  walk_at "rd"
  refine x_iteD (fun c => ?_) (fun c => ?_)
  · walk_at "rd"
    refine x_lenL (lOf hd) ?_
    walk_at "rd"
    by_cases c2 : (2 : Int) < ((a :: b :: l).length : Nat)
    · rw [decide_eq_true c2]
      refine iteT ?_
      walk_at "rd"
      obtain ⟨x, m, rfl⟩ : ∃ x m, l = x :: m := by
        cases l with
        | nil => simp at c2
        | cons x m => exact ⟨x, m, rfl⟩
      refine x_ty hd ?_
      walk_at "rd"
      refine ⟨d, _, 2, 2, .int x, rfl, rfl, hd, by decide, by decide, ?_, rfl, ?_⟩
      · rw [zI_len]
        have e := ixN_seq (n := (a :: b :: x :: m).length) (i := 2) (j := 2) (by have := @ixN_z (a :: b :: x :: m) 2 (by omega) (by simp only [List.length_cons]; omega); rw [zI_len] at this; exact this)
        exact e.1
      · have he : (zI (a :: b :: x :: m)).eraseIdx 2 = zI (a :: b :: m) := rfl
        rw [he]
        refine ⟨_, rfl, d, _, _, 1, rfl, rfl, upd_same, ixN_z (by omega) (by simp only [List.length_cons]; omega), ?_⟩
        rw [upd_upd]
        exact rest x m _ (hl x (by simp)) (fun y hy => hl y (by simp [hy])) kp_set upd_same
    · rw [decide_eq_false c2]
      refine iteF ?_
      refine x_next ?_
      exact rest b l H hb hl Kp.refl hd
  · refine iteF ?_
    refine x_next ?_
    exact rest b l H hb hl Kp.refl hd
end
end TkL

namespace TkL
open PySem PySem.Spec PySem.Calls PyProof.Rows L2 Tk
theorem d_ne {H H1 : Hp} {d D : Addr} (D0 : DAt d H1) (h : H1 D = none) : D ≠ d := fun e => by
  obtain ⟨ds, hd, _⟩ := D0
  subst e
  rw [hd] at h
  cases h
theorem DAt.upd {H : Hp} {d D : Addr} {o : HO} (D0 : DAt d H) (h : D ≠ d) : DAt d (upd H D o) := by
  obtain ⟨ds, hd, w⟩ := D0
  exact ⟨ds, by rw [upd_ne h.symm]; exact hd, w⟩
theorem Kp.newD {H H' : Hp} {d D : Addr} {o : HO} (k : Kp d H H') (h : H D = none) : Kp d H (upd H' D o) := fun x u hx e => by
  by_cases c : x = D
  · subst c; rw [h] at e; cases e
  · rw [upd_ne c]; exact k x u hx e
theorem lcK {lo : Int} {n : Nat} {H1 : Hp} {d : Addr} (D0 : DAt d H1) {j : Nat} {te : TE} {σ : L2.St} {Q : Addr → Hp → Prop} (P : Int → Prop) (hz : n ≤ 1000000)
    (hv : ∀ (i : Nat) H' (Qv : VK), i < n → Kp d H1 H' → DAt d H' → (∀ H'' v, Kp d H' H'' → DAt d H'' → P v → Qv (.int v) H'') → te ((wipe σ [j]).set j (some (.int (lo + (i : Int))))) H' Qv)
    (hd : ∀ D H' l, Kp d H1 H' → DAt d H' → H1 D = none → H' D = some (.lst (zI l)) → l.length = n → (∀ x ∈ l, P x) → Q D H') :
    ∀ D, H1 D = none → ∃ W : Nat → Nat → Hp → Prop, (∃ m, W 0 m (upd H1 D (.lst []))) ∧ ∀ i m H, W i m H →
      ((Itr lo n).stop i H ∧ Q D H) ∨ ((Itr lo n).go i H ∧ ∃ Nx : Hp → Prop, (∀ H', Nx H' → ∃ m', m' < m ∧ W (i + 1) m' H') ∧ ∀ x H', (Itr lo n).yld i H x H' → gName j x (wipe σ [j]) H' fun σ2 H2 => wipe σ2 [j] = wipe σ [j] ∧ tYes σ2 H2 fun b H3 =>
        if b = true then te σ2 H3 fun y H4 => ∃ acc, H4 D = some (.lst acc) ∧ acc.length < sizeLine ∧ Nx (upd H4 D (.lst (acc ++ [y]))) else Nx H3) := by
  intro D hD
  have hDd : D ≠ d := d_ne (H := H1) D0 hD
  refine ⟨fun i m H => m = n - i ∧ i ≤ n ∧ ∃ l, Kp d H1 H ∧ DAt d H ∧ H D = some (.lst (zI l)) ∧ l.length = i ∧ ∀ x ∈ l, P x, ⟨_, rfl, Nat.zero_le _, [], Kp.newD Kp.refl hD, D0.upd hDd, upd_same, rfl, fun _ h => absurd h List.not_mem_nil⟩, ?_⟩
  rintro i m H ⟨rfl, hi, l, k, D1, hl, ll, lp⟩
  by_cases hlt : i < n
  · refine .inr ⟨hlt, fun H' => ∃ l, Kp d H1 H' ∧ DAt d H' ∧ H' D = some (.lst (zI l)) ∧ l.length = i + 1 ∧ ∀ x ∈ l, P x, fun H' h => ⟨_, by omega, rfl, hlt, h⟩, fun x H' y => ?_⟩
    obtain ⟨rfl, rfl⟩ := y
    show wipe _ [j] = _ ∧ _
    refine ⟨wipe_set1 _ _ _, ?_⟩
    refine x_yes (iteT ?_)
    refine hv i H' _ hlt k D1 fun H'' v k2 D2 hp => ?_
    have hl2 : H'' D = some (.lst (zI l)) := k2 D _ hDd hl
    refine ⟨_, hl2, sz_lt (by rw [zI_len]; omega), l ++ [v], Kp.newD (k.trans k2) hD, D2.upd hDd, by rw [upd_same, zI_snoc], by rw [List.length_append]; simp [ll], fun x hx => ?_⟩
    rcases List.mem_append.mp hx with z | z
    · exact lp x z
    · rw [List.mem_singleton.mp z]; exact hp
  · have : i = n := by omega
    subst this
    exact .inl ⟨Nat.le_refl _, hd D H l k D1 hD hl ll lp⟩
section
variable {K : PySem.W.Frag} {C : Addr} {H : Hp} {Q : VK} {d : Addr}
theorem x_irng1 {ta : TA} {σ : L2.St} {R : It → Hp → Prop} (h : ta σ H fun vs H1 => ∃ j, vs = [.int j] ∧ -2 ^ 62 ≤ j ∧ j < 2 ^ 62 ∧ R (Itr 0 j.toNat) H1) : iRng1 ta σ H R := h
theorem x_below {n : Int} {E : XK} (D : DAt d H) (h0 : 0 < n) (h1 : n < 1073741824) (h : ∀ H' v, Kp d H H' → DAt d H' → 0 ≤ v → v < n → Q (.int v) H') : spBelow [.ref d, .int n] H Q E := ⟨d, n, rfl, D, h0, h1, h⟩
end
section
variable {K : PySem.W.Frag} {C : Addr}
theorem rdLlaps (T : TyF K C) (vs : List V) (H : Hp) (Q : VK) (E : XK) (h : spLawLaps vs H Q E) : tLlaps K { nx := fun _ H' => Q .non H', rt := Q } (start ["_law_d", "_law_most", "_law_longest", "_law_k"] vs) H := by
  obtain ⟨d, m, rfl, D, m1, m2, h⟩ := h
  unfold tLlaps
  walk_at "rd"
  refine x_lst ?_
  walk_at "rd"
  refine ⟨by show 3 ≤ sizeLine; decide, ?_⟩
  (intro p hp; generalize hX : upd _ p _ = H1; have e1 := ex_of hX hp; have h1 := at_of hX; clear hX)
  walk_at "rd"
  have D1 := D.ex e1
  refine x_below D1 (by decide) (by decide) fun H2 v k2 D2 v0 v3 => ?_
  have hpd : p ≠ d := d_ne (H := H) D hp
  have h2 := k2 p _ hpd h1
  obtain ⟨lg, hlg, l0, l1⟩ : ∃ lg : Int, atI ([.int 3, .int 9, .int 60] : List V) v = some (.int lg) ∧ 1 ≤ lg ∧ lg ≤ 60 := by
    have : v = 0 ∨ v = 1 ∨ v = 2 := by omega
    rcases this with rfl | rfl | rfl
    · exact ⟨3, rfl, by decide, by decide⟩
    · exact ⟨9, rfl, by decide, by decide⟩
    · exact ⟨60, rfl, by decide, by decide⟩
  refine x_ixL (lOf h2) hlg ?_
  walk_at "rd"
  refine x_lc (x_irng1 ?_)
  walk_at "rd"
  refine x_below D2 (by omega) (by omega) fun H3 w k3 D3 w0 wm => ?_
  walk_at "rd"
  refine ⟨_, rfl, by omega, by omega, ?_⟩
  refine lcK D3 (fun x => 1 ≤ x ∧ x ≤ 60) (by omega) (fun i H' Qv _ k D' q => ?_) (fun F H4 l k4 D4 hF hl ll lp => ?_)
  · walk_at "rd"
    refine x_below D' (by omega) (by omega) fun H5 x k5 D5 x0 x1 => ?_
    walk_at "rd"
    exact q H5 _ k5 D5 ⟨by omega, by omega⟩
  · walk_at "rd"
    refine x_tupL hl fun q H5 e5 hq h5 => ?_
    refine h H5 q l (((e1.kp.trans k2).trans (k3.trans k4)).trans e5.kp) (D4.ex e5) h5 (fun z => ?_) (by omega) lp
    have : l.length = 0 := by rw [z]; rfl
    omega
theorem rdLplan (T : TyF K C) (vs : List V) (H : Hp) (Q : VK) (E : XK) (h : spPlan vs H Q E) : tLplan K { nx := fun _ H' => Q .non H', rt := Q } (start ["_law_d", "_law_most", "_law_first"] vs) H := by
  obtain ⟨d, m, rfl, D, m1, m2, h⟩ := h
  unfold tLplan
  walk_at "rd"
  refine x_below D (by decide) (by decide) fun H1 v k1 D1 v0 v2 => ?_
  walk_at "rd"
  refine x_rEq rfl ?_
  walk_at "rd"
  have rest : ∀ (pf : Addr) (fs : List Int) (H2 : Hp), Kp d H H2 → DAt d H2 → H2 pf = some (.tup (zI fs)) → fs.length ≤ 3 → (∀ x ∈ fs, 1 ≤ x ∧ x ≤ 60) →
      tRet (tTup (tCons (tDef (spBelow) E0 (tCons (tVar 0) (tCons (tOp (rIxL K) (tLst (tCons (tC (.int 9)) (tCons (tC (.int 60)) tNil))) (tDef (spBelow) E0 (tCons (tVar 0) (tCons (tC (.int 2)) tNil)))) tNil))) (tCons (tVar 2) (tCons (tDef (spLawLaps) E0 (tCons (tVar 0) (tCons (tVar 1) tNil))) tNil))))
        { nx := fun _ H' => Q .non H', rt := Q } [some (.ref d), some (.int m), some (.ref pf)] H2 := fun pf fs H2 k2 D2 hpf fl fr => by
    walk_at "rd"
    refine x_tup ?_
    walk_at "rd"
    refine x_lst ?_
    walk_at "rd"
    refine ⟨by show 2 ≤ sizeLine; decide, ?_⟩
    (intro p hp; generalize hX : upd _ p _ = H3; have e3 := ex_of hX hp; have h3 := at_of hX; clear hX)
    walk_at "rd"
    have D3 := D2.ex e3
    refine x_below D3 (by decide) (by decide) fun H4 v k4 D4 v0 v2 => ?_
    have hpd : p ≠ d := d_ne (H := H2) D2 hp
    have h4 := k4 p _ hpd h3
    obtain ⟨lg, hlg, l0, l1⟩ : ∃ lg : Int, atI ([.int 9, .int 60] : List V) v = some (.int lg) ∧ 1 ≤ lg ∧ lg ≤ 60 := by
      have : v = 0 ∨ v = 1 := by omega
      rcases this with rfl | rfl
      · exact ⟨9, rfl, by decide, by decide⟩
      · exact ⟨60, rfl, by decide, by decide⟩
    refine x_ixL (lOf h4) hlg ?_
    walk_at "rd"
    refine x_below D4 (by omega) (by omega) fun H5 s k5 D5 s0 s1 => ?_
    walk_at "rd"
    refine ⟨d, m, rfl, D5, m1, m2, fun H6 pl ls k6 D6 hpl hne hlen hlr => ?_⟩
    walk_at "rd"
    refine ⟨by show 3 ≤ sizeLine; decide, ?_⟩
    (intro q hq; generalize hX : upd _ q _ = H7; have e7 := ex_of hX hq; have h7 := at_of hX; clear hX)
    have k26 : Kp d H2 H6 := e3.kp.trans (k4.trans (k5.trans k6))
    have hpf6 : H6 pf = some (.tup (zI fs)) := k26 pf _ (kp_ne D2 hpf fun _ z => by cases z) hpf
    exact h H7 q s pf fs pl ls (k2.trans (k26.trans e7.kp)) (D6.ex e7) h7 (e7 _ _ hpf6) (e7 _ _ hpl) ⟨s0, by omega, fl, fr, hne, hlen, hlr⟩
  refine x_iteD (fun c => ?_) (fun c => ?_)
  · refine x_tup0 fun p H2 e2 hp h2 => ?_
    refine x_name ?_
    exact rest p [] H2 (k1.trans e2.kp) (D1.ex e2) h2 (by simp) (fun _ z => absurd z List.not_mem_nil)
  · walk_at "rd"
    refine ⟨d, 3, rfl, D1, by decide, by decide, fun H2 p fs k2 D2 hp _ hlen hr => ?_⟩
    refine x_name ?_
    exact rest p fs H2 (k1.trans k2) D2 hp (by omega) hr
theorem rdLsome_tick (T : TyF K C) (vs : List V) (H : Hp) (Q : VK) (E : XK) (h : spSomeTick vs H Q E) : tLsome_tick K { nx := fun _ H' => Q .non H', rt := Q } (start ["_law_d"] vs) H := by
  obtain ⟨d, rfl, D, h⟩ := h
  unfold tLsome_tick
  walk_at "rd"
  refine x_lst ?_
  walk_at "rd"
  refine x_below D (by decide) (by decide) fun H1 v k1 D1 v0 v2 => ?_
  walk_at "rd"
  refine x_rI ⟨by decide, by decide, by decide⟩ ?_
  walk_at "rd"
  refine x_rI ⟨by decide, by decide, by decide⟩ ?_
  walk_at "rd"
  rw [pow18, pow6]
  refine x_below D1 (by decide) (by decide) fun H2 w k2 D2 w0 w2 => ?_
  walk_at "rd"
  refine ⟨by show 2 ≤ sizeLine; decide, ?_⟩
  (intro p hp; generalize hX : upd _ p _ = H3; have e3 := ex_of hX hp; have h3 := at_of hX; clear hX)
  walk_at "rd"
  have D3 := D2.ex e3
  refine x_below D3 (by decide) (by decide) fun H4 x k4 D4 x0 x2 => ?_
  have hpd : p ≠ d := d_ne (H := H2) D2 hp
  have h4 := k4 p _ hpd h3
  have kk : Kp d H H4 := (k1.trans k2).trans (e3.kp.trans k4)
  have : x = 0 ∨ x = 1 := by omega
  rcases this with rfl | rfl
  · refine x_ixL (v := .int v) (lOf h4) rfl ?_
    exact h H4 v kk D4 v0 (by omega)
  · refine x_ixL (v := .int (1000000000000000000 - w)) (lOf h4) rfl ?_
    exact h H4 _ kk D4 (by omega) (by omega)
theorem x_catV {H : Hp} {Q : VK} {p q : Addr} {l m : List V} (s : H p = some (.lst l)) (t : H q = some (.lst m)) (hz : l.length + m.length ≤ 1000000) (h : ∀ r H', Ex H H' → H r = none → H' r = some (.lst (l ++ m)) → Q (.ref r) H') : rCat (.ref p) (.ref q) H Q :=
  ⟨p, q, _, _, rfl, rfl, s, t, sz_of hz, x_new h⟩
theorem x_catA {K : PySem.W.Frag} {H : Hp} {Q : VK} {p q : Addr} {l m : List V} (s : SqT K H p l) (t : SqT K H q m) (hz : l.length + m.length ≤ 1000000) (h : ∀ r H', Ex H H' → SqT K H' r (l ++ m) → Q (.ref r) H') : rCatA K (.ref p) (.ref q) H Q :=
  ⟨p, q, _, _, rfl, rfl, s, t, sz_of hz, fun e => h q H (Ex.refl _) (by rw [e]; exact t), fun _ e => h p H (Ex.refl _) (by rw [e, List.append_nil]; exact s), fun _ _ r hr => h r _ (Ex.new hr) (tOf upd_same)⟩
theorem log_small {i : Int} (h0 : 0 ≤ i) (h1 : i < 1000000) : i.natAbs.log2 < 1920 := by
  have h2 : i.natAbs < 2 ^ 20 := by omega
  by_cases c : i.natAbs = 0
  · rw [c]; decide
  · have := (Nat.log2_lt c).mpr h2
    omega
theorem rdLrow (T : TyF K C) (vs : List V) (H : Hp) (Q : VK) (E : XK) (h : spLawRow K C vs H Q E) : tLrow K C { nx := fun _ H' => Q .non H', rt := Q } (start ["_law_plan_here", "_law_start", "_law_first", "_law_laps_here", "_law_lap", "_law_number"] vs) H := by
  obtain ⟨p, s, pf, fs, pl, ls, rfl, sp, sf, sl, ok, h⟩ := h
  have hf1 : ∀ x ∈ fs, 1 ≤ x := fun x hx => (ok.fr x hx).1
  have hl1 : ∀ x ∈ ls, 1 ≤ x := fun x hx => (ok.lr x hx).1
  have h0 := ok.s0
  have hs := ok.s1
  have hfl := ok.fl
  have hll := ok.ll
  have fsum : fs.sum ≤ 60 * (fs.length : Int) := by
    have key : ∀ l : List Int, (∀ x ∈ l, x ≤ 60) → l.sum ≤ 60 * (l.length : Int) := fun l => by
      induction l with
      | nil => intro _; simp
      | cons a l ih => intro hh; have := hh a (by simp); have := ih (fun x hx => hh x (by simp [hx])); rw [List.sum_cons, List.length_cons]; omega
    exact key fs fun x hx => (ok.fr x hx).2
  have lsum : ls.sum ≤ 60 * (ls.length : Int) := by
    have key : ∀ l : List Int, (∀ x ∈ l, x ≤ 60) → l.sum ≤ 60 * (l.length : Int) := fun l => by
      induction l with
      | nil => intro _; simp
      | cons a l ih => intro hh; have := hh a (by simp); have := ih (fun x hx => hh x (by simp [hx])); rw [List.sum_cons, List.length_cons]; omega
    exact key ls fun x hx => (ok.lr x hx).2
  unfold tLrow
  walk_at "rd"
  refine x_gtup3 sp ?_
  walk_at "rd"
  refine ⟨rfl, ?_⟩
  walk_at "rd"
  refine ⟨rfl, ?_⟩
  walk_at "rd"
  refine x_lc (x_itup ?_)
  walk_at "rd"
  refine x_tup ?_
  walk_at "rd"
  refine ⟨by show 1 ≤ sizeLine; decide, ?_⟩
  (intro A hA; generalize hX : upd _ A _ = H1; have e1 := ex_of hX hA; have h1 := at_of hX; clear hX)
  walk_at "rd"
  refine x_catA (l := [.int s]) (tOf h1) (e1.sqT sf) (by rw [zI_len]; simp; omega) fun B H2 e2 h2 => ?_
  have h2' : SqT K H2 B (zI (s :: fs)) := h2
  have nums : ∀ x ∈ s :: fs, 0 ≤ x ∧ x < 1000000 := fun x hx => by
    rcases List.mem_cons.mp hx with z | z
    · omega
    · have := ok.fr x z; omega
  refine ⟨B, rfl, ⟨_, h2'⟩, ?_⟩
  refine lcfI (Wk.tup h2') (fun _ => true) (fun n => .str (numS n)) (by simp; omega) (fun n H' Qb _ e q => q) (fun n H' Qv hn _ e q => ?_) (fun D H3 e3 hD hl3 => ?_)
  · walk_at "rd"
    exact ⟨n, rfl, log_small (nums n hn).1 (nums n hn).2, q⟩
  rw [List.filter_eq_self.mpr (fun _ _ => rfl)] at hl3
  refine x_lst ?_
  walk_at "rd"
  refine ⟨by show 1 ≤ sizeLine; decide, ?_⟩
  (intro F hF; generalize hX : upd _ F _ = H4; have e4 := ex_of hX hF; have h4 := at_of hX; clear hX)
  refine x_catV (e4 _ _ hl3) h4 (by simp; omega) fun G H5 e5 hG h5 => ?_
  refine x_lc (x_itup ?_)
  walk_at "rd"
  have sl5 : SqT K H5 pl (zI ls) := (e1.trans (e2.trans (e3.trans (e4.trans e5)))).sqT sl
  refine ⟨⟨_, sl5⟩, ?_⟩
  refine lcfI (Wk.tup sl5) (fun _ => true) (fun n => .str (numS n)) (by omega) (fun n H' Qb _ e q => q) (fun n H' Qv hn _ e q => ?_) (fun D2 H6 e6 hD2 hl6 => ?_)
  · walk_at "rd"
    exact ⟨n, rfl, log_small (by have := (ok.lr n hn).1; omega) (by have := (ok.lr n hn).2; omega), q⟩
  rw [List.filter_eq_self.mpr (fun _ _ => rfl)] at hl6
  refine x_catV (e6 _ _ h5) hl6 (by simp; omega) fun G2 H7 e7 hG2 h7 => ?_
  walk_at "rd"
  have ew : ((s :: fs).map fun n => V.str (numS n)) ++ [V.str "|"] ++ (ls.map fun n => V.str (numS n)) = (planWords s fs ls).map V.str := by
    unfold planWords
    simp [List.map_map, Function.comp_def]
  rw [ew] at h7
  have wl := word_len (s := s) (fs := fs) (ls := ls) h0 (by omega) (fun x hx => by have := ok.fr x hx; omega) (fun x hx => by have := ok.lr x hx; omega)
  have wc := wsum_le _ _ wl
  have wn := planWords_len (s := s) (fs := fs) (ls := ls)
  have jl := join_len wl
  refine ⟨" ", G2, planWords s fs ls, rfl, rfl, .inl (lOf h7), ?_, ?_⟩
  · have : (" " : Str).length = 1 := by decide
    rw [this]
    omega
  · refine ⟨_, _, rfl, by omega, parse_plan h0 hf1 hl1 ok.ln (by omega) (by omega), fun H8 a r e8 ha R hr => ?_⟩
    have eall := e1.trans (e2.trans (e3.trans (e4.trans (e5.trans (e6.trans e7)))))
    exact h H8 a r (eall.trans e8) (eall.back ha) R hr
end
end TkL

namespace Tk
theorem cntLe_cons {a : Int} {l : List Int} {t : Int} : cntLe (a :: l) t = (if a ≤ t then 1 else 0) + cntLe l t := by
  unfold cntLe
  rw [List.filter_cons]
  by_cases h : a ≤ t
  · rw [decide_eq_true h, if_pos rfl, if_pos h, List.length_cons]; omega
  · rw [decide_eq_false h, if_neg (by simp), if_neg h]; omega
theorem cntLe_all : ∀ {l : List Int} {t : Int}, (∀ x ∈ l, x ≤ t) → cntLe l t = l.length
  | [], _, _ => rfl
  | a :: l, t, h => by rw [cntLe_cons, if_pos (h a (by simp)), cntLe_all (fun x hx => h x (by simp [hx])), List.length_cons]; omega
theorem cntLe_none : ∀ {l : List Int} {t : Int}, (∀ x ∈ l, t < x) → cntLe l t = 0
  | [], _, _ => rfl
  | a :: l, t, h => by
    have := h a (by simp)
    rw [cntLe_cons, if_neg (by omega), cntLe_none (fun x hx => h x (by simp [hx]))]
theorem cntLe_step : ∀ {l : List Int} {t : Int}, l.Pairwise (· < ·) → cntLe l t = cntLe l (t - 1) + if t ∈ l then 1 else 0
  | [], t, _ => by simp [cntLe]
  | a :: l, t, h => by
    have h1 := List.pairwise_cons.mp h
    have ih := cntLe_step (t := t) h1.2
    rw [cntLe_cons, cntLe_cons, ih]
    by_cases e : t = a
    · subst e
      have hn : t ∉ l := fun z => by have := h1.1 t z; omega
      rw [if_neg hn, if_pos (Int.le_refl _), if_neg (show ¬ t ≤ t - 1 by omega), if_pos (show t ∈ t :: l by simp)]
      omega
    · have hm : (t ∈ a :: l) ↔ t ∈ l := by rw [List.mem_cons]; exact ⟨fun z => z.elim (fun z => absurd z e) id, .inr⟩
      have hc : (a ≤ t) ↔ (a ≤ t - 1) := by omega
      simp only [hm, hc]
      omega
theorem cntLe_get : ∀ {l : List Int} {i : Nat}, l.Pairwise (· < ·) → i < l.length → cntLe l (l.getD i 0) = i + 1
  | [], i, _, h => absurd h (Nat.not_lt_zero _)
  | a :: l, 0, h, _ => by
    have h1 := List.pairwise_cons.mp h
    show cntLe (a :: l) a = 1
    rw [cntLe_cons, if_pos (Int.le_refl _), cntLe_none h1.1]
  | a :: l, i + 1, h, hi => by
    have h1 := List.pairwise_cons.mp h
    have hi' : i < l.length := by simpa using hi
    show cntLe (a :: l) (l.getD i 0) = _
    have hm : l.getD i 0 ∈ l := by rw [List.getD_eq_getElem?_getD, List.getElem?_eq_getElem hi']; exact List.getElem_mem _
    have := h1.1 _ hm
    rw [cntLe_cons, if_pos (by omega), cntLe_get h1.2 hi']
    omega
theorem getD_mem {l : List Int} {i : Nat} (h : i < l.length) : l.getD i 0 ∈ l := by rw [List.getD_eq_getElem?_getD, List.getElem?_eq_getElem h]; exact List.getElem_mem _
theorem div_unique {u q s l : Int} (h0 : 0 ≤ s) (h1 : s < l) (e : u = q * l + s) : u / l = q ∧ u % l = s := by
  subst e
  have e1 : q * l + s = s + l * q := by rw [Int.mul_comm]; omega
  rw [e1, Int.add_mul_ediv_left _ _ (by omega), Int.add_mul_emod_self_left, Int.ediv_eq_zero_of_lt h0 h1, Int.emod_eq_of_lt h0 h1]
  exact ⟨by omega, rfl⟩
theorem count_step {r : RV} (w : WF r.early r.beg r.len r.offs) (t : Int) : r.count t = r.count (t - 1) + if r.has t = true then 1 else 0 := by
  have hl := w.l1
  unfold RV.count
  by_cases c1 : t < r.beg
  · rw [if_pos c1, if_pos (by omega), cntLe_step w.es, RV.has_lo c1]
    simp only [decide_eq_true_iff]
    split <;> simp
  · rw [if_neg c1, RV.has_hi (by omega)]
    simp only [decide_eq_true_iff]
    by_cases c2 : t - 1 < r.beg
    · have e : t - r.beg = 0 := by omega
      rw [if_pos c2, e, Int.zero_ediv, Int.zero_emod, cntLe_all (t := t - 1) (fun x hx => by have := (w.er x hx).2; omega), cntLe_step w.os, cntLe_none (fun x hx => by have := (w.ow x hx).1; omega)]
      simp
      split <;> simp
    · rw [if_neg c2]
      have hr0 : 0 ≤ (t - r.beg) % r.len := Int.emod_nonneg _ (by omega)
      have hr1 : (t - r.beg) % r.len < r.len := Int.emod_lt_of_pos _ (by omega)
      have hq : r.len * ((t - r.beg) / r.len) + (t - r.beg) % r.len = t - r.beg := Int.mul_ediv_add_emod _ _
      generalize (t - r.beg) / r.len = q at *
      generalize (t - r.beg) % r.len = s at *
      by_cases c3 : s = 0
      · have d := div_unique (u := t - 1 - r.beg) (q := q - 1) (s := r.len - 1) (l := r.len) (by omega) (by omega) (by rw [Int.sub_mul, Int.mul_comm q]; omega)
        rw [d.1, d.2, cntLe_all (l := r.offs) (t := r.len - 1) (fun x hx => by have := (w.ow x hx).2; omega)]
        subst c3
        rw [cntLe_step (t := 0) w.os, cntLe_none (fun x hx => by have := (w.ow x hx).1; omega), Int.sub_mul]
        split <;> simp <;> omega
      · have d := div_unique (u := t - 1 - r.beg) (q := q) (s := s - 1) (l := r.len) (by omega) (by omega) (by rw [Int.mul_comm q]; omega)
        rw [d.1, d.2, cntLe_step (t := s) w.os]
        split <;> simp <;> omega
theorem count_neg {r : RV} (w : WF r.early r.beg r.len r.offs) {t : Int} (h : t < 0) : r.count t = 0 := by
  have := w.b0
  unfold RV.count
  rw [if_pos (by omega), cntLe_none (fun x hx => by have := (w.er x hx).1; omega)]
  rfl
theorem count_monoN {r : RV} (w : WF r.early r.beg r.len r.offs) (t : Int) : ∀ k : Nat, r.count t ≤ r.count (t + k) ∧ r.count (t + k) ≤ r.count t + k
  | 0 => by simp
  | k + 1 => by
    have ih := count_monoN w t k
    have s := count_step w (t + ((k + 1 : Nat) : Int))
    have e : t + ((k + 1 : Nat) : Int) - 1 = t + k := by omega
    rw [e] at s
    split at s <;> omega
theorem count_mono {r : RV} (w : WF r.early r.beg r.len r.offs) {t u : Int} (h : t ≤ u) : r.count t ≤ r.count u := by
  have := (count_monoN w t (u - t).toNat).1
  have e : t + ((u - t).toNat : Int) = u := by omega
  rwa [e] at this
theorem count_le {r : RV} (w : WF r.early r.beg r.len r.offs) {t : Int} (h : -1 ≤ t) : r.count t ≤ t + 1 := by
  have := (count_monoN w (-1) (t + 1).toNat).2
  have e : -1 + ((t + 1).toNat : Int) = t := by omega
  rw [e, count_neg w (t := -1) (by omega)] at this
  omega
theorem count_nn {r : RV} (w : WF r.early r.beg r.len r.offs) (t : Int) : 0 ≤ r.count t := by
  rcases Int.lt_or_le t 0 with h | h
  · rw [count_neg w h]; exact Int.le_refl _
  · have := count_mono w (t := -1) (u := t) (by omega)
    rwa [count_neg w (by omega)] at this
theorem count_lt {r : RV} (w : WF r.early r.beg r.len r.offs) {t u : Int} (h : t < u) (hu : r.has u = true) : r.count t < r.count u := by
  have s := count_step w u
  rw [if_pos hu] at s
  have := count_mono w (t := t) (u := u - 1) (by omega)
  omega
theorem nth_ok {r : RV} (w : WF r.early r.beg r.len r.offs) {n : Int} (h0 : 0 ≤ n) (h : n < r.early.length ∨ r.offs ≠ []) : r.has (r.nth n) = true ∧ r.count (r.nth n) = n + 1 := by
  unfold RV.nth
  by_cases c : n < r.early.length
  · rw [if_pos c]
    have hi : n.toNat < r.early.length := by omega
    have hm := getD_mem hi
    have hr := (w.er _ hm).2
    refine ⟨by rw [RV.has_lo hr]; exact decide_eq_true hm, ?_⟩
    unfold RV.count
    rw [if_pos hr, cntLe_get w.es hi]
    omega
  · rw [if_neg c]
    have ho : r.offs ≠ [] := h.elim (fun z => absurd z c) id
    have hol := List.length_pos_iff.mpr ho
    have m0 : 0 ≤ (n - r.early.length) / r.offs.length := Int.ediv_nonneg (by omega) (by omega)
    have i0 : 0 ≤ (n - r.early.length) % r.offs.length := Int.emod_nonneg _ (by omega)
    have i1 : (n - r.early.length) % r.offs.length < r.offs.length := Int.emod_lt_of_pos _ (by omega)
    have hq : (r.offs.length : Int) * ((n - r.early.length) / r.offs.length) + (n - r.early.length) % r.offs.length = n - r.early.length := Int.mul_ediv_add_emod _ _
    generalize (n - r.early.length) / r.offs.length = q at *
    generalize (n - r.early.length) % r.offs.length = i at *
    have hi : i.toNat < r.offs.length := by omega
    have hm := getD_mem hi
    have hx := w.ow _ hm
    have hl := w.l1
    have hql : 0 ≤ q * r.len := Int.mul_nonneg m0 (by omega)
    have d := div_unique (u := r.beg + q * r.len + r.offs.getD i.toNat 0 - r.beg) (q := q) hx.1 hx.2 (by omega)
    refine ⟨?_, ?_⟩
    · rw [RV.has_hi (by omega), d.2]; exact decide_eq_true hm
    · unfold RV.count
      rw [if_neg (by omega), d.1, d.2, cntLe_get w.os hi, Int.mul_comm q]
      omega
theorem nth_eq {r : RV} (w : WF r.early r.beg r.len r.offs) {n u : Int} (h0 : 0 ≤ n) (h : n < r.early.length ∨ r.offs ≠ []) (hu : r.has u = true) (hc : r.count u = n + 1) : r.nth n = u := by
  have k := nth_ok w h0 h
  rcases Int.lt_trichotomy (r.nth n) u with z | z | z
  · have := count_lt w z hu; omega
  · exact z
  · have := count_lt w z k.1; omega
theorem nth_lt {r : RV} (w : WF r.early r.beg r.len r.offs) (ho : r.offs ≠ []) {m n : Int} (h0 : 0 ≤ m) (h : m < n) : r.nth m < r.nth n := by
  have a := nth_ok w h0 (.inr ho)
  have b := nth_ok w (n := n) (by omega) (.inr ho)
  rcases Int.lt_or_le (r.nth m) (r.nth n) with z | z
  · exact z
  · have := count_mono w z; omega
theorem nth_nn {r : RV} (w : WF r.early r.beg r.len r.offs) {n : Int} (h0 : 0 ≤ n) (h : n < r.early.length ∨ r.offs ≠ []) : 0 ≤ r.nth n := by
  have a := nth_ok w h0 h
  rcases Int.lt_or_le (r.nth n) 0 with z | z
  · rw [count_neg w z] at a; omega
  · exact z
theorem nth_next {r : RV} (w : WF r.early r.beg r.len r.offs) (ho : r.offs ≠ []) (t : Int) : t < r.nth (r.count t) ∧ ∀ u, t < u → r.has u = true → r.nth (r.count t) ≤ u := by
  have a := nth_ok w (count_nn w t) (.inr ho)
  constructor
  · rcases Int.lt_or_le t (r.nth (r.count t)) with z | z
    · exact z
    · have := count_mono w z; omega
  · intro u hu hh
    rcases Int.lt_or_le u (r.nth (r.count t)) with z | z
    · have h1 := count_lt w hu hh
      have h2 := count_lt w z a.1
      omega
    · exact z
theorem nth_last {r : RV} (w : WF r.early r.beg r.len r.offs) (ho : r.offs ≠ []) {t : Int} (h : 0 < r.count t) : r.nth (r.count t - 1) ≤ t ∧ (r.has t = true → r.nth (r.count t - 1) = t) := by
  have a := nth_ok w (n := r.count t - 1) (by omega) (.inr ho)
  constructor
  · rcases Int.lt_or_le t (r.nth (r.count t - 1)) with z | z
    · have := count_lt w z a.1; omega
    · exact z
  · intro ht
    exact nth_eq w (by omega) (.inr ho) ht (by omega)
theorem count_rounds {r : RV} (w : WF r.early r.beg r.len r.offs) {k : Int} (h : 0 ≤ k) : r.count (r.beg + k * r.len) - r.count r.beg = k * r.offs.length := by
  have hl := w.l1
  have hk : 0 ≤ k * r.len := Int.mul_nonneg h (by omega)
  have d := div_unique (u := r.beg + k * r.len - r.beg) (q := k) (s := 0) (l := r.len) (Int.le_refl _) (by omega) (by omega)
  unfold RV.count
  rw [if_neg (by omega), if_neg (by omega), d.1, d.2, Int.sub_self, Int.zero_ediv, Int.zero_emod]
  omega
theorem nth_rounds {r : RV} (w : WF r.early r.beg r.len r.offs) (ho : r.offs ≠ []) {n k : Int} (h : (r.early.length : Int) ≤ n) (hk : 0 ≤ k) : r.nth (n + k * r.offs.length) = r.nth n + k * r.len := by
  have hol := List.length_pos_iff.mpr ho
  have hkl : 0 ≤ k * (r.offs.length : Int) := Int.mul_nonneg hk (by omega)
  unfold RV.nth
  rw [if_neg (by omega), if_neg (by omega)]
  have e : n + k * (r.offs.length : Int) - r.early.length = (n - r.early.length) + (r.offs.length : Int) * k := by rw [Int.mul_comm k]; omega
  rw [e, Int.add_mul_ediv_left _ _ (by omega), Int.add_mul_emod_self_left, Int.add_mul]
  omega
theorem tks_gap : ∀ {a : Int} {l : List Int} {t g : Int}, (∀ x ∈ l, 1 ≤ x ∧ x ≤ g) → a ≤ t → t < a + l.sum → ∃ u ∈ tks a l, t < u ∧ u ≤ t + g
  | a, [], t, g, _, h1, h2 => by simp at h2; omega
  | a, b :: l, t, g, h, h1, h2 => by
    have hb := h b (by simp)
    rw [List.sum_cons] at h2
    by_cases c : t < a + b
    · refine ⟨a + b, ?_, c, by omega⟩
      show a + b ∈ a :: tks (a + b) l
      refine List.mem_cons_of_mem _ ?_
      cases l <;> simp [tks]
    · obtain ⟨u, hu, q⟩ := tks_gap (a := a + b) (l := l) (g := g) (t := t) (fun x hx => h x (by simp [hx])) (by omega) (by omega)
      exact ⟨u, List.mem_cons_of_mem _ hu, q⟩
theorem tks_mem {a : Int} {l : List Int} {u : Int} (h : u ∈ tks a l) : u ∈ (tks a l).dropLast ∨ u = a + l.sum := by
  rw [tks_split] at h
  rcases List.mem_append.mp h with z | z
  · exact .inl z
  · exact .inr (List.mem_singleton.mp z)
theorem tks_first {l : List Int} (h : l ≠ []) : (0 : Int) ∈ (tks 0 l).dropLast := by
  cases l with
  | nil => exact absurd rfl h
  | cons b l =>
    show (0 : Int) ∈ (0 :: tks (0 + b) l).dropLast
    rw [List.dropLast_cons_of_ne_nil tks_ne]
    exact List.mem_cons_self
theorem plan_gap {s : Int} {fs ls : List Int} {g : Int} (hf : ∀ x ∈ fs, 1 ≤ x ∧ x ≤ g) (hl : ∀ x ∈ ls, 1 ≤ x ∧ x ≤ g) (hn : ls ≠ []) {t : Int} (ht : s ≤ t) : ∃ u, t < u ∧ u ≤ t + g ∧ planHas s fs ls u = true := by
  have hL := sum_ge (fun x hx => (hl x hx).1)
  have hLp := List.length_pos_iff.mpr hn
  have z0 := tks_first hn
  have hB : planHas s fs ls (s + fs.sum) = true := by
    unfold planHas
    rw [qhas_hi (Int.le_refl _), Int.sub_self, Int.zero_emod]
    exact decide_eq_true z0
  rcases Int.lt_or_le t (s + fs.sum) with c | c
  · obtain ⟨u, hu, h1, h2⟩ := tks_gap (a := s) hf ht c
    rcases tks_mem hu with z | z
    · refine ⟨u, h1, h2, ?_⟩
      unfold planHas
      rw [qhas_lo ((tks_front (fun x hx => (hf x hx).1)).2 u z).2]
      exact decide_eq_true z
    · exact ⟨u, h1, h2, by rw [z]; exact hB⟩
  · have w0 : 0 ≤ (t - (s + fs.sum)) % ls.sum := Int.emod_nonneg _ (by omega)
    have w1 : (t - (s + fs.sum)) % ls.sum < ls.sum := Int.emod_lt_of_pos _ (by omega)
    have hq : ls.sum * ((t - (s + fs.sum)) / ls.sum) + (t - (s + fs.sum)) % ls.sum = t - (s + fs.sum) := Int.mul_ediv_add_emod _ _
    generalize (t - (s + fs.sum)) / ls.sum = q at *
    generalize (t - (s + fs.sum)) % ls.sum = y at *
    obtain ⟨u, hu, h1, h2⟩ := tks_gap (a := 0) hl w0 (by omega)
    refine ⟨t + (u - y), by omega, by omega, ?_⟩
    unfold planHas
    rw [qhas_hi (by omega)]
    have e : t + (u - y) - (s + fs.sum) = u + ls.sum * q := by omega
    rw [e, Int.add_mul_emod_self_left]
    rcases tks_mem hu with z | z
    · have hr := (tks_front (fun x hx => (hl x hx).1)).2 u z
      rw [Int.emod_eq_of_lt hr.1 (by omega)]
      exact decide_eq_true z
    · rw [z, Int.zero_add, Int.emod_self]
      exact decide_eq_true z0
end Tk

namespace Tk
theorem plan_start {s : Int} {fs ls : List Int} (hf : ∀ x ∈ fs, 1 ≤ x) (hn : ls ≠ []) : planHas s fs ls s = true := by
  have z0 := tks_first hn
  unfold planHas
  cases fs with
  | nil =>
    rw [qhas_hi (by simp)]
    simp only [List.sum_nil, Int.add_zero, Int.sub_self, Int.zero_emod]
    exact decide_eq_true z0
  | cons b l =>
    have hb := hf b (by simp)
    have hs := sum_ge (fun x hx => hf x (List.mem_cons_of_mem b hx))
    rw [List.sum_cons, qhas_lo (by omega)]
    refine decide_eq_true ?_
    show s ∈ (s :: tks (s + b) l).dropLast
    rw [List.dropLast_cons_of_ne_nil tks_ne]
    exact List.mem_cons_self
structure PR (r : RV) (L : Int) : Prop where
  w : WF r.early r.beg r.len r.offs
  ho : r.offs ≠ []
  ll : r.len ≤ L
  gap : ∀ t, 0 ≤ t → r.nth (r.count t) - t ≤ 60 + r.nth 0
theorem plan_row {r : RV} {m s : Int} {fs ls : List Int} (rb : RB r) (ok : TkL.PlanOk m s fs ls) (hr : ∀ t, r.has t = planHas s fs ls t) : PR r ls.sum := by
  have hf1 : ∀ x ∈ fs, 1 ≤ x := fun x hx => (ok.fr x hx).1
  have hl1 : ∀ x ∈ ls, 1 ≤ x := fun x hx => (ok.lr x hx).1
  have w := rb.c.wf
  have ho : r.offs ≠ [] := fun z => by
    obtain ⟨u, h1, h2, h3⟩ := plan_gap (s := s) ok.fr ok.lr ok.ln (t := max s r.beg) (by omega)
    rw [← hr, RV.has_hi (show r.beg ≤ u by omega), z] at h3
    simp at h3
  have wp := plan_wf ok.s0 hf1 hl1 ok.ln
  refine ⟨w, ho, ?_, fun t ht => ?_⟩
  · have p : Per (planHas s fs ls) (s + fs.sum) ls.sum := qhas_per wp.l1
    refine rb.c.ml ls.sum (s + fs.sum) wp.l1 fun t ht => ?_
    rw [hr, hr]
    exact p t ht
  · have n0 := nth_nn w (n := 0) (Int.le_refl _) (.inr ho)
    have nx := nth_next w ho t
    rcases Int.lt_or_le t s with c | c
    · have := nx.2 s c (by rw [hr]; exact plan_start hf1 ok.ln)
      have := ok.s1
      omega
    · obtain ⟨u, h1, h2, h3⟩ := plan_gap ok.fr ok.lr ok.ln c
      have := nx.2 u h1 (by rw [hr]; exact h3)
      omega
theorem flaps_len {r : RV} (ho : r.offs ≠ []) : r.flaps.length = r.early.length := by
  have := List.length_pos_iff.mpr ho
  unfold RV.flaps
  rw [diffs_len, List.length_append, List.length_map, List.length_take]
  omega
theorem laps_len {r : RV} : r.laps.length = r.offs.length := by
  unfold RV.laps
  rw [diffs_len, List.length_append, List.length_map, List.length_take]
  omega
theorem nth_early {r : RV} (ho : r.offs ≠ []) {k : Nat} (h : k ≤ r.early.length) : r.nth k = (r.early ++ (r.offs.take 1).map (r.beg + ·)).getD k 0 := by
  have ho1 : r.offs.take 1 = [r.offs.getD 0 0] := by
    cases hh : r.offs with
    | nil => exact absurd hh ho
    | cons b l => rfl
  have hol := List.length_pos_iff.mpr ho
  unfold RV.nth
  rw [ho1, List.map_singleton]
  by_cases c : k < r.early.length
  · rw [if_pos (by omega), Int.toNat_natCast]
    simp only [List.getD_eq_getElem?_getD]
    rw [List.getElem?_append_left c]
  · have e : k = r.early.length := by omega
    subst e
    rw [if_neg (by omega), Int.sub_self, Int.zero_ediv, Int.zero_emod]
    simp [List.getD_eq_getElem?_getD]
theorem nth_late {r : RV} (ho : r.offs ≠ []) {j : Nat} (h : j ≤ r.offs.length) : r.nth (r.early.length + j) = r.beg + (r.offs ++ (r.offs.take 1).map (· + r.len)).getD j 0 := by
  have ho1 : r.offs.take 1 = [r.offs.getD 0 0] := by
    cases hh : r.offs with
    | nil => exact absurd hh ho
    | cons b l => rfl
  have hol := List.length_pos_iff.mpr ho
  unfold RV.nth
  have e : (r.early.length : Int) + j - r.early.length = j := by omega
  rw [ho1, List.map_singleton, if_neg (by omega), e]
  by_cases c : j < r.offs.length
  · rw [Int.ediv_eq_zero_of_lt (by omega) (by omega), Int.emod_eq_of_lt (by omega) (by omega), Int.toNat_natCast]
    simp only [List.getD_eq_getElem?_getD]
    rw [List.getElem?_append_left c]
    omega
  · have e2 : j = r.offs.length := by omega
    subst e2
    rw [Int.ediv_self (by omega), Int.emod_self]
    simp [List.getD_eq_getElem?_getD]
    omega
theorem laps_get {r : RV} (w : WF r.early r.beg r.len r.offs) (ho : r.offs ≠ []) (m : Nat) {k : Nat} (hk : k < (r.flaps ++ (List.replicate m r.laps).flatten).length) : (r.flaps ++ (List.replicate m r.laps).flatten).getD k 0 = r.nth ((k : Int) + 1) - r.nth k := by
  have hol := List.length_pos_iff.mpr ho
  have fl := flaps_len ho
  by_cases c : k < r.early.length
  · have e : ((k : Int) + 1) = ((k + 1 : Nat) : Int) := by omega
    rw [e, nth_early ho (by omega), nth_early ho (by omega)]
    simp only [List.getD_eq_getElem?_getD]
    rw [List.getElem?_append_left (by omega)]
    unfold RV.flaps
    rw [diffs_get (by rw [List.length_append, List.length_map, List.length_take]; omega)]
    simp [List.getD_eq_getElem?_getD]
  · obtain ⟨j, rfl⟩ : ∃ j, k = r.early.length + j := ⟨k - r.early.length, by omega⟩
    have one : ∀ i : Nat, i < r.offs.length → r.laps.getD i 0 = r.nth ((r.early.length + i : Nat) + 1) - r.nth (r.early.length + i : Nat) := fun i hi => by
      have e : ((r.early.length + i : Nat) : Int) + 1 = (r.early.length : Int) + ((i + 1 : Nat) : Int) := by omega
      have e2 : ((r.early.length + i : Nat) : Int) = (r.early.length : Int) + (i : Nat) := by omega
      rw [e, e2, nth_late ho (by omega), nth_late ho (by omega)]
      have d := diffs_get (l := r.offs ++ (r.offs.take 1).map (· + r.len)) (i := i) (by rw [List.length_append, List.length_map, List.length_take]; omega)
      unfold RV.laps
      rw [List.getD_eq_getElem?_getD, d]
      show _ - _ = _
      omega
    have key : ∀ (m j : Nat), j < ((List.replicate m r.laps).flatten).length → ((List.replicate m r.laps).flatten).getD j 0 = r.nth ((r.early.length + j : Nat) + 1) - r.nth (r.early.length + j : Nat) := fun m => by
      induction m with
      | zero => intro j hj; simp at hj
      | succ m ih =>
        intro j hj
        rw [List.replicate_succ, List.flatten_cons] at hj ⊢
        by_cases cj : j < r.laps.length
        · rw [← one j (by rw [← laps_len]; exact cj)]
          simp only [List.getD_eq_getElem?_getD]
          rw [List.getElem?_append_left cj]
        · rw [List.length_append] at hj
          have hjm := ih (j - r.laps.length) (by omega)
          have ell := laps_len (r := r)
          have ea : ((r.early.length + j : Nat) : Int) + 1 = (((r.early.length + (j - r.laps.length) : Nat) : Int) + 1) + 1 * (r.offs.length : Int) := by omega
          have eb : ((r.early.length + j : Nat) : Int) = ((r.early.length + (j - r.laps.length) : Nat) : Int) + 1 * (r.offs.length : Int) := by omega
          rw [ea, eb, nth_rounds w ho (by omega) (by omega), nth_rounds w ho (by omega) (by omega)]
          simp only [List.getD_eq_getElem?_getD] at hjm ⊢
          rw [List.getElem?_append_right (by omega), hjm]
          omega
    rw [List.length_append, fl] at hk
    have := key m j (by omega)
    simp only [List.getD_eq_getElem?_getD] at this ⊢
    rw [List.getElem?_append_right (by omega), fl]
    have e : r.early.length + j - r.early.length = j := by omega
    rw [e, this]
end Tk
namespace TkL
open PySem PySem.Spec PySem.Calls PyProof.Rows L2 Tk
section
variable {K : PySem.W.Frag} {C : Addr} {H : Hp} {Q : VK} {E : XK} {a d : Addr} {r : RV} {t n : Int}
structure LS (K : PySem.W.Frag) (C d a : Addr) (r : RV) (H : Hp) : Prop where
  D : DAt d H
  R : RowAt K C H a r
theorem LS.ex {H' : Hp} (S : LS K C d a r H) (e : Ex H H') : LS K C d a r H' := ⟨S.D.ex e, S.R.ex e⟩
theorem LS.kp {H' : Hp} (S : LS K C d a r H) (k : Kp d H H') (D : DAt d H') : LS K C d a r H' := ⟨D, S.R.kp S.D k⟩
theorem RowAt.inst (R : RowAt K C H a r) : ∃ dx fs, H a = some (.ins C dx fs) := by
  obtain ⟨dx, p1, p2, p3, p4, I⟩ := R
  exact ⟨dx, _, I.ob⟩
theorem x_rcall (S : LS K C d a r H) (h0 : 0 ≤ t) (h1 : t ≤ 1000000000000000000) (h : ∀ H', LS K C d a r H' → Q (.int (r.count t)) H') : (∃ dx fs, H a = some (.ins C dx fs)) ∧ spCall K C [.ref a, .int t] H Q E :=
  ⟨S.R.inst, a, t, r, rfl, S.R, h0, h1, fun H' e => h H' (S.ex e)⟩
theorem x_rin (S : LS K C d a r H) (h0 : 0 ≤ t) (h1 : t ≤ 1000000000000000000) (h : Q (.bl (r.has t)) H) : rOwnIn C false (spContains K C) E (.int t) (.ref a) H Q := by
  obtain ⟨dx, fs, hi⟩ := S.R.inst
  refine ⟨a, dx, fs, rfl, hi, a, _, r, rfl, S.R, .inl ⟨t, rfl, _, rfl, ?_⟩⟩
  rw [decide_eq_true h0, decide_eq_true h1]
  exact h
theorem x_rnin (S : LS K C d a r H) (h0 : 0 ≤ t) (h1 : t ≤ 1000000000000000000) (h : Q (.bl (!r.has t)) H) : rOwnIn C true (spContains K C) E (.int t) (.ref a) H Q := by
  obtain ⟨dx, fs, hi⟩ := S.R.inst
  refine ⟨a, dx, fs, rfl, hi, a, _, r, rfl, S.R, .inl ⟨t, rfl, _, rfl, ?_⟩⟩
  rw [decide_eq_true h0, decide_eq_true h1]
  exact h
theorem x_rix (R : RowAt K C H a r) (h0 : 0 ≤ n) (h1 : n ≤ 1000000000000000000) (ho : r.offs ≠ []) (h : ∀ H', Ex H H' → Q (.int (r.nth n)) H') : rOwnIx C (spItem K C) E (.ref a) (.int n) H Q := by
  obtain ⟨dx, fs, hi⟩ := R.inst
  exact ⟨a, dx, fs, rfl, hi, a, n, r, rfl, R, h0, h1, .inr ho, h⟩
theorem x_rixS (S : LS K C d a r H) (h0 : 0 ≤ n) (h1 : n ≤ 1000000000000000000) (ho : r.offs ≠ []) (h : ∀ H', LS K C d a r H' → Q (.int (r.nth n)) H') : rOwnIx C (spItem K C) E (.ref a) (.int n) H Q := x_rix S.R h0 h1 ho fun H' e => h H' (S.ex e)
theorem x_inst {P : Addr → Addr → List (Str × V) → Prop} (R : RowAt K C H a r) (h : ∀ dx fs, H a = some (.ins C dx fs) → P a dx fs) : ∃ a' dx fs, V.ref a = .ref a' ∧ H a' = some (.ins C dx fs) ∧ P a' dx fs := by
  obtain ⟨dx, fs, hi⟩ := R.inst
  exact ⟨a, dx, fs, rfl, hi, h dx fs hi⟩
theorem x_no {c A B : Prop} [Decidable c] (h : ¬ c) (b : B) : if decide c = true then A else B := by rw [decide_eq_false h]; exact iteF b
theorem x_yesD {c A B : Prop} [Decidable c] (h : c) (b : A) : if decide c = true then A else B := by rw [decide_eq_true h]; exact iteT b
theorem x_same {x y : Int} {A B : Prop} (h : x = y) (b : B) : if (!decide (V.int x = V.int y)) = true then A else B := by rw [h, decide_eq_true rfl]; exact iteF b
theorem x_min {i j : Int} (h : Q (.int (if j < i then j else i)) H) : kMin2 [.int i, .int j] H Q := ⟨i, j, rfl, h⟩
theorem pow9 : ((10 : Int) ^ (9 : Int).toNat) = 1000000000 := by decide
theorem hNone {H : Hp} : Ex (fun _ => none) H := fun _ _ h => by cases h
end
end TkL


namespace TkL
open PySem PySem.Spec PySem.Calls PyProof.Rows L2 Tk
section
variable (K : PySem.W.Frag) (C : Addr)
def tPlaw : TS := (tSeq (tAsg (tDef (spRandom K) E0 (tCons (tVar 0) (tCons (tC (.int 33)) tNil))) (gName 1))
    (tSeq (tFor (iRng1 (tCons (tC (.int 2)) tNil)) (gName 2) (tSeq (tAsg (tDef (spLawRow K C) E0 (tCons (tDef (spPlan) E0 (tCons (tVar 1) (tCons (tC (.int 6)) tNil))) tNil)) (gName 3))
    (tSeq (tAsg (tCB kMin2 (tCons (tDef (spSomeTick) E0 (tCons (tVar 1) tNil)) (tCons (tOp (rI0 fun i j => V.int (i - j)) (tOp (rI CPow fun i j => V.int (i ^ j.toNat)) (tC (.int 10)) (tC (.int 18))) (tC (.int 61))) tNil))) (gName 4))
    (tSeq (tAsg (tIns C (spCall K C) E0 (tVar 3) (tCons (tVar 4) tNil)) (gName 5))
    (tSeq (tIfS (tTest (tOp rNe (tOp (rI0 fun i j => V.int (i - j)) (tIns C (spCall K C) E0 (tVar 3) (tCons (tOp (rI0 fun i j => V.int (i + j)) (tVar 4) (tC (.int 1))) tNil)) (tVar 5)) (tCB kInt (tCons (tOp (rOwnIn C false (spContains K C) E0) (tOp (rI0 fun i j => V.int (i + j)) (tVar 4) (tC (.int 1))) (tVar 3)) tNil)))) (tRet (tC (.bl false))) tNext)
    (tSeq (tIfS (tTest (tOp (rI0 fun i j => V.bl (decide (j < i))) (tVar 5) (tC (.int 0)))) (tSeq (tAsg (tOp (rOwnIx C (spItem K C) E0) (tVar 3) (tOp (rI0 fun i j => V.int (i - j)) (tVar 5) (tC (.int 1)))) (gName 15))
    (tIfS (tOr (tTest (tOp (rI0 fun i j => V.bl (decide (j < i))) (tVar 15) (tVar 4))) (tOr (tTest (tOp (rOwnIn C true (spContains K C) E0) (tVar 15) (tVar 3))) (tOr (tTest (tOp rNe (tIns C (spCall K C) E0 (tVar 3) (tCons (tVar 15) tNil)) (tVar 5))) (tAnd (tTest (tOp (rOwnIn C false (spContains K C) E0) (tVar 4) (tVar 3))) (tTest (tOp rNe (tVar 15) (tVar 4))))))) (tRet (tC (.bl false))) tNext)) tNext)
    (tSeq (tAsg (tOp (rOwnIx C (spItem K C) E0) (tVar 3) (tVar 5)) (gName 6))
    (tSeq (tIfS (tOr (tTest (tOp (rI0 fun i j => V.bl (decide (i ≤ j))) (tVar 6) (tVar 4))) (tTest (tOp (rI0 fun i j => V.bl (decide (j < i))) (tOp (rI0 fun i j => V.int (i - j)) (tVar 6) (tVar 4)) (tOp (rI0 fun i j => V.int (i + j)) (tC (.int 60)) (tOp (rOwnIx C (spItem K C) E0) (tVar 3) (tC (.int 0))))))) (tRet (tC (.bl false))) tNext)
    (tSeq (tIfS (tTest (tOp rNe (tIns C (spCall K C) E0 (tVar 3) (tCons (tCB kMin2 (tCons (tVar 6) (tCons (tOp (rI CPow fun i j => V.int (i ^ j.toNat)) (tC (.int 10)) (tC (.int 18))) tNil))) tNil)) (tOp (rI0 fun i j => V.int (i + j)) (tVar 5) (tCB kInt (tCons (tOp (rI0 fun i j => V.bl (decide (i ≤ j))) (tVar 6) (tOp (rI CPow fun i j => V.int (i ^ j.toNat)) (tC (.int 10)) (tC (.int 18)))) tNil))))) (tRet (tC (.bl false))) tNext)
    (tSeq (tAsg (tPrp C (spRep K C) E0 (tVar 3)) (gTup K 3 (gCons (gName 7) (gCons (gName 8) (gCons (gName 9) gNil)))))
    (tSeq (tAsg (tDef (spBelow) E0 (tCons (tVar 1) (tCons (tOp (rI CPow fun i j => V.int (i ^ j.toNat)) (tC (.int 10)) (tC (.int 9))) tNil))) (gName 10))
    (tSeq (tIfS (tTest (tOp rNe (tOp (rI0 fun i j => V.int (i - j)) (tIns C (spCall K C) E0 (tVar 3) (tCons (tOp (rI0 fun i j => V.int (i + j)) (tVar 7) (tOp (rI CMul fun i j => V.int (i * j)) (tVar 10) (tVar 8))) tNil)) (tIns C (spCall K C) E0 (tVar 3) (tCons (tVar 7) tNil))) (tOp (rI CMul fun i j => V.int (i * j)) (tVar 10) (tVar 9)))) (tRet (tC (.bl false))) tNext)
    (tSeq (tAsg (tOp (rI0 fun i j => V.int (i + j)) (tCB (kLen K) (tCons (tPrp C (spFlaps K C) E0 (tVar 3)) tNil)) (tDef (spBelow) E0 (tCons (tVar 1) (tCons (tC (.int 99)) tNil)))) (gName 11))
    (tSeq (tAsg (tOp (rOwnIx C (spItem K C) E0) (tVar 3) (tOp (rI0 fun i j => V.int (i + j)) (tVar 11) (tOp (rI CMul fun i j => V.int (i * j)) (tVar 10) (tVar 9)))) (gName 12))
    (tSeq (tIfS (tTest (tOp rNe (tVar 12) (tOp (rI0 fun i j => V.int (i + j)) (tOp (rOwnIx C (spItem K C) E0) (tVar 3) (tVar 11)) (tOp (rI CMul fun i j => V.int (i * j)) (tVar 10) (tVar 8))))) (tRet (tC (.bl false))) tNext)
    (tSeq (tIfS (tTest (tOp (rI0 fun i j => V.bl (decide (i ≤ j))) (tOp (rOwnIx C (spItem K C) E0) (tVar 3) (tOp (rI0 fun i j => V.int (i + j)) (tVar 11) (tC (.int 1)))) (tOp (rOwnIx C (spItem K C) E0) (tVar 3) (tVar 11)))) (tRet (tC (.bl false))) tNext)
    (tSeq (tAsg (tOp (rCatA K) (tPrp C (spFlaps K C) E0 (tVar 3)) (tOp (rRepT K) (tPrp C (spLaps K C) E0 (tVar 3)) (tC (.int 3)))) (gName 13))
    (tFor (iRng1 (tCons (tCB (kLen K) (tCons (tVar 13) tNil)) tNil)) (gName 14) (tIfS (tTest (tOp rNe (tOp (rI0 fun i j => V.int (i - j)) (tOp (rOwnIx C (spItem K C) E0) (tVar 3) (tOp (rI0 fun i j => V.int (i + j)) (tVar 14) (tC (.int 1)))) (tOp (rOwnIx C (spItem K C) E0) (tVar 3) (tVar 14))) (tOp (rIxT K) (tVar 13) (tVar 14)))) (tRet (tC (.bl false))) tNext)))))))))))))))))))
    (tRet (tC (.bl true)))))
end
end TkL

namespace TkL
open PySem PySem.Spec PySem.Calls PyProof.Rows L2 Tk
section
variable {K : PySem.W.Frag} {C : Addr}
theorem rdPlaw (T : TyF K C) (vs : List V) (H : Hp) (Q : VK) (E : XK) (h : spLaw K vs H Q E) : tPlaw K C { nx := fun _ H' => Q .non H', rt := Q } (start ["_law_script", "_law_d", "_law_turn", "_law_row_here", "_law_tick", "_law_many", "_law_coming", "_law_begin", "_law_length", "_law_size", "_law_rounds", "_law_number", "_law_far", "_law_laps_here", "_law_k", "_law_last"] vs) H := by
  obtain ⟨p, ns, rfl, s, hz, h⟩ := h
  unfold tPlaw
  walk_at "rd"
  refine ⟨p, ns, 33, rfl, s, hz, by decide, by decide, fun H1 d e1 hd D => ?_⟩
  walk_at "rd"
  refine x_for (x_irng1 ?_)
  walk_at "rd"
  refine ⟨_, rfl, by decide, by decide, ?_⟩
  refine for_wk (H0 := fun _ => none) (Wk.rng (lo := 0)) (fun i σ H' => ∃ u2 u3 u4 u5 u6 u7 u8 u9 u10 u11 u12 u13 u14 u15, σ = [some (.ref p), some (.ref d), u2, u3, u4, u5, u6, u7, u8, u9, u10, u11, u12, u13, u14, u15] ∧ DAt d H')
    ⟨_, _, _, _, _, _, _, _, _, _, _, _, _, _, rfl, D⟩ (fun i σ H' _ => hNone) ?_ ?_
  · rintro i x σ H2 hx ⟨u2, u3, u4, u5, u6, u7, u8, u9, u10, u11, u12, u13, u14, u15, rfl, D2⟩
    have hi := lt_of_get hx
    rw [rngV_length] at hi
    rw [rngV_get hi] at hx
    cases hx
    walk_at "rd"
    refine ⟨d, 6, rfl, D2, by decide, by decide, fun H3 q s pf fs pl ls k3 D3 hq hpf hpl ok => ?_⟩
    walk_at "rd"
    refine ⟨q, s, pf, fs, pl, ls, rfl, tOf hq, tOf hpf, tOf hpl, ⟨ok.s0, ok.s1, ok.fl, ok.fr, ok.ln, by have := ok.ll; omega, ok.lr⟩, fun H4 a r e4 ha R hr => ?_⟩
    have rb : RB r := by obtain ⟨_, _, _, _, _, I⟩ := R; exact I.rb
    have pr := plan_row rb ok hr
    have w := pr.w
    have ho := pr.ho
    have hol := List.length_pos_iff.mpr ho
    have lsum : ls.sum ≤ 360 := by
      have key : ∀ l : List Int, (∀ x ∈ l, x ≤ 60) → l.sum ≤ 60 * (l.length : Int) := fun l => by
        induction l with
        | nil => intro _; simp
        | cons a l ih => intro hh; have := hh a (by simp); have := ih (fun x hx => hh x (by simp [hx])); rw [List.sum_cons, List.length_cons]; omega
      have := key ls fun x hx => (ok.lr x hx).2
      have := ok.ll
      omega
    have hlen := pr.ll
    have hol2 := rb.ol
    have hel2 := rb.el2
    have hbb := rb.bb
    have hb0 := w.b0
    have hl1 := w.l1
    have S4 : LS K C d a r H4 := ⟨D3.ex e4, R⟩
    walk_at "rd"
    refine ⟨d, rfl, S4.D, fun H5 t k5 D5 t0 t1 => ?_⟩
    have S5 := S4.kp k5 D5
    walk_at "rd"
    refine x_rI ⟨by decide, by decide, by decide⟩ ?_
    walk_at "rd"
    rw [pow18]
    refine x_min ?_
    obtain ⟨tk, etk, k0, k1⟩ : ∃ tk : Int, (if (1000000000000000000 - 61 : Int) < t then (1000000000000000000 - 61 : Int) else t) = tk ∧ 0 ≤ tk ∧ tk ≤ 1000000000000000000 - 61 := by
      refine ⟨_, rfl, ?_, ?_⟩ <;> split <;> omega
    rw [etk]
    have cs := count_step w (tk + 1)
    rw [Int.add_sub_cancel] at cs
    have cn := count_nn w tk
    have cl := count_le w (t := tk) (by omega)
    have nok := nth_ok w cn (.inr ho)
    have nxt := nth_next w ho tk
    walk_at "rd"
    refine x_rcall S5 k0 (by omega) fun H6 S6 => ?_
    walk_at "rd"
    refine x_rcall S6 (by omega) (by omega) fun H7 S7 => ?_
    walk_at "rd"
    refine x_rin S7 (by omega) (by omega) ?_
    walk_at "rd"
    refine x_rNe rfl ?_
    walk_at "rd"
    refine x_same (by rw [cs]; omega) ?_
    walk_at "rd"
    have rest : ∀ (u15 : Option V) (H8 : Hp), LS K C d a r H8 → tSeq (tAsg (tOp (rOwnIx C (spItem K C) E0) (tVar 3) (tVar 5)) (gName 6))
          (tSeq (tIfS (tOr (tTest (tOp (rI0 fun i j => V.bl (decide (i ≤ j))) (tVar 6) (tVar 4))) (tTest (tOp (rI0 fun i j => V.bl (decide (j < i))) (tOp (rI0 fun i j => V.int (i - j)) (tVar 6) (tVar 4)) (tOp (rI0 fun i j => V.int (i + j)) (tC (.int 60)) (tOp (rOwnIx C (spItem K C) E0) (tVar 3) (tC (.int 0))))))) (tRet (tC (.bl false))) tNext)
          (tSeq (tIfS (tTest (tOp rNe (tIns C (spCall K C) E0 (tVar 3) (tCons (tCB kMin2 (tCons (tVar 6) (tCons (tOp (rI CPow fun i j => V.int (i ^ j.toNat)) (tC (.int 10)) (tC (.int 18))) tNil))) tNil)) (tOp (rI0 fun i j => V.int (i + j)) (tVar 5) (tCB kInt (tCons (tOp (rI0 fun i j => V.bl (decide (i ≤ j))) (tVar 6) (tOp (rI CPow fun i j => V.int (i ^ j.toNat)) (tC (.int 10)) (tC (.int 18)))) tNil))))) (tRet (tC (.bl false))) tNext)
          (tSeq (tAsg (tPrp C (spRep K C) E0 (tVar 3)) (gTup K 3 (gCons (gName 7) (gCons (gName 8) (gCons (gName 9) gNil)))))
          (tSeq (tAsg (tDef (spBelow) E0 (tCons (tVar 1) (tCons (tOp (rI CPow fun i j => V.int (i ^ j.toNat)) (tC (.int 10)) (tC (.int 9))) tNil))) (gName 10))
          (tSeq (tIfS (tTest (tOp rNe (tOp (rI0 fun i j => V.int (i - j)) (tIns C (spCall K C) E0 (tVar 3) (tCons (tOp (rI0 fun i j => V.int (i + j)) (tVar 7) (tOp (rI CMul fun i j => V.int (i * j)) (tVar 10) (tVar 8))) tNil)) (tIns C (spCall K C) E0 (tVar 3) (tCons (tVar 7) tNil))) (tOp (rI CMul fun i j => V.int (i * j)) (tVar 10) (tVar 9)))) (tRet (tC (.bl false))) tNext)
          (tSeq (tAsg (tOp (rI0 fun i j => V.int (i + j)) (tCB (kLen K) (tCons (tPrp C (spFlaps K C) E0 (tVar 3)) tNil)) (tDef (spBelow) E0 (tCons (tVar 1) (tCons (tC (.int 99)) tNil)))) (gName 11))
          (tSeq (tAsg (tOp (rOwnIx C (spItem K C) E0) (tVar 3) (tOp (rI0 fun i j => V.int (i + j)) (tVar 11) (tOp (rI CMul fun i j => V.int (i * j)) (tVar 10) (tVar 9)))) (gName 12))
          (tSeq (tIfS (tTest (tOp rNe (tVar 12) (tOp (rI0 fun i j => V.int (i + j)) (tOp (rOwnIx C (spItem K C) E0) (tVar 3) (tVar 11)) (tOp (rI CMul fun i j => V.int (i * j)) (tVar 10) (tVar 8))))) (tRet (tC (.bl false))) tNext)
          (tSeq (tIfS (tTest (tOp (rI0 fun i j => V.bl (decide (i ≤ j))) (tOp (rOwnIx C (spItem K C) E0) (tVar 3) (tOp (rI0 fun i j => V.int (i + j)) (tVar 11) (tC (.int 1)))) (tOp (rOwnIx C (spItem K C) E0) (tVar 3) (tVar 11)))) (tRet (tC (.bl false))) tNext)
          (tSeq (tAsg (tOp (rCatA K) (tPrp C (spFlaps K C) E0 (tVar 3)) (tOp (rRepT K) (tPrp C (spLaps K C) E0 (tVar 3)) (tC (.int 3)))) (gName 13))
          (tFor (iRng1 (tCons (tCB (kLen K) (tCons (tVar 13) tNil)) tNil)) (gName 14) (tIfS (tTest (tOp rNe (tOp (rI0 fun i j => V.int (i - j)) (tOp (rOwnIx C (spItem K C) E0) (tVar 3) (tOp (rI0 fun i j => V.int (i + j)) (tVar 14) (tC (.int 1)))) (tOp (rOwnIx C (spItem K C) E0) (tVar 3) (tVar 14))) (tOp (rIxT K) (tVar 13) (tVar 14)))) (tRet (tC (.bl false))) tNext))))))))))))
      { nx := fun σ H' => ∃ u2 u3 u4 u5 u6 u7 u8 u9 u10 u11 u12 u13 u14 u15, σ = [some (.ref p), some (.ref d), u2, u3, u4, u5, u6, u7, u8, u9, u10, u11, u12, u13, u14, u15] ∧ DAt d H',
        rt := Q, bk := tRet (tC (.bl true)) { nx := fun x H' => Q V.non H', rt := Q },
        ct := fun σ H' => ∃ u2 u3 u4 u5 u6 u7 u8 u9 u10 u11 u12 u13 u14 u15, σ = [some (.ref p), some (.ref d), u2, u3, u4, u5, u6, u7, u8, u9, u10, u11, u12, u13, u14, u15] ∧ DAt d H' }
      [some (.ref p), some (.ref d), some (.int (0 + (i : Int))), some (.ref a), some (.int tk), some (.int (r.count tk)), u6, u7, u8, u9, u10, u11, u12, u13, u14, u15] H8 := fun u15 H8 S8 => by
      walk_at "rd"
      refine x_rixS S8 cn (by omega) ho fun H9 S9 => ?_
      walk_at "rd"
      refine x_no (by omega) ?_
      walk_at "rd"
      refine x_rixS S9 (by omega) (by decide) ho fun H10 S10 => ?_
      walk_at "rd"
      have g := pr.gap tk k0
      have n0 := nth_nn w (n := 0) (Int.le_refl _) (.inr ho)
      refine x_no (by omega) ?_
      walk_at "rd"
      refine x_rI ⟨by decide, by decide, by decide⟩ ?_
      walk_at "rd"
      rw [pow18]
      refine x_min ?_
      have mi : ∀ (H : Hp) (Qq : VK), LS K C d a r H → (∀ H', LS K C d a r H' → Qq (.int (r.count tk + if decide (r.nth (r.count tk) ≤ 1000000000000000000) then 1 else 0)) H') → (∃ dx fs, H a = some (.ins C dx fs)) ∧ spCall K C [.ref a, .int (if (1000000000000000000 : Int) < r.nth (r.count tk) then 1000000000000000000 else r.nth (r.count tk))] H Qq E0 := fun H Qq S q => by
        by_cases c : (1000000000000000000 : Int) < r.nth (r.count tk)
        · rw [if_pos c]
          refine x_rcall S (by decide) (Int.le_refl _) fun H' S' => ?_
          have e1 := count_mono w (t := tk) (u := 1000000000000000000) (by omega)
          have e2 := count_lt w (t := 1000000000000000000) c nok.1
          have := q H' S'
          rw [decide_eq_false (by omega)] at this
          have e3 : r.count 1000000000000000000 = r.count tk := by omega
          rw [e3]
          simpa using this
        · rw [if_neg c]
          refine x_rcall S (by omega) (by omega) fun H' S' => ?_
          have := q H' S'
          rw [decide_eq_true (by omega)] at this
          rw [nok.2]
          simpa using this
      walk_at "rd"
      refine mi _ _ S10 fun H11 S11 => ?_
      walk_at "rd"
      refine x_rI ⟨by decide, by decide, by decide⟩ ?_
      walk_at "rd"
      rw [pow18]
      refine x_rNe rfl ?_
      walk_at "rd"
      refine x_same (by rfl) ?_
      walk_at "rd"
      refine x_inst S11.R fun dx fs hi => ⟨a, r, rfl, S11.R, fun H12 q12 e12 h12 => ?_⟩
      have S12 := S11.ex e12
      refine x_gtup3 (tOf h12) ?_
      walk_at "rd"
      refine x_rI ⟨by decide, by decide, by decide⟩ ?_
      walk_at "rd"
      rw [pow9]
      refine x_below S12.D (by decide) (by decide) fun H13 k k13 D13 kk0 kk1 => ?_
      have S13 := S12.kp k13 D13
      have km : 0 ≤ k * r.len := Int.mul_nonneg kk0 (by omega)
      have km2 : k * r.len ≤ 1000000000 * 360 := by
        have h1 : k * r.len ≤ 1000000000 * r.len := Int.mul_le_mul_of_nonneg_right (by omega) (by omega)
        omega
      have ko : 0 ≤ k * (r.offs.length : Int) := Int.mul_nonneg kk0 (by omega)
      have ko2 : k * (r.offs.length : Int) ≤ 1000000000 * 360 := by
        have h1 : k * (r.offs.length : Int) ≤ 1000000000 * (r.offs.length : Int) := Int.mul_le_mul_of_nonneg_right (by omega) (by omega)
        omega
      walk_at "rd"
      refine x_rI (.inl (by omega)) ?_
      walk_at "rd"
      refine x_rcall S13 (by omega) (by omega) fun H14 S14 => ?_
      walk_at "rd"
      refine x_rcall S14 (by omega) (by omega) fun H15 S15 => ?_
      walk_at "rd"
      refine x_rI (.inl (by omega)) ?_
      refine x_rNe rfl ?_
      walk_at "rd"
      refine x_same (count_rounds w kk0) ?_
      walk_at "rd"
      refine x_inst S15.R fun dx fs hi => ⟨a, r, rfl, S15.R, fun H16 q16 e16 h16 => ?_⟩
      have S16 := S15.ex e16
      walk_at "rd"
      refine x_lenT (tOf h16) ?_
      rw [flaps_len ho]
      walk_at "rd"
      refine x_below S16.D (by decide) (by decide) fun H17 y k17 D17 y0 y1 => ?_
      have S17 := S16.kp k17 D17
      walk_at "rd"
      refine x_rI (.inl (by omega)) ?_
      walk_at "rd"
      refine x_rixS S17 (by omega) (by omega) ho fun H18 S18 => ?_
      walk_at "rd"
      refine x_rixS S18 (by omega) (by omega) ho fun H19 S19 => ?_
      walk_at "rd"
      refine x_rI (.inl (by omega)) ?_
      walk_at "rd"
      refine x_rNe rfl ?_
      walk_at "rd"
      refine x_same (nth_rounds w ho (by omega) kk0) ?_
      walk_at "rd"
      refine x_rixS S19 (by omega) (by omega) ho fun H20 S20 => ?_
      walk_at "rd"
      refine x_rixS S20 (by omega) (by omega) ho fun H21 S21 => ?_
      walk_at "rd"
      have nl := nth_lt w ho (m := (r.early.length : Int) + y) (n := (r.early.length : Int) + y + 1) (by omega) (by omega)
      refine x_no (by omega) ?_
      walk_at "rd"
      refine x_inst S21.R fun dx fs hi => ⟨a, r, rfl, S21.R, fun H22 q22 e22 h22 => ?_⟩
      have S22 := S21.ex e22
      walk_at "rd"
      refine x_inst S22.R fun dx fs hi => ⟨a, r, rfl, S22.R, fun H23 q23 e23 h23 => ?_⟩
      have S23 := S22.ex e23
      have ll := laps_len (r := r)
      walk_at "rd"
      refine ⟨q23, 3, _, rfl, rfl, tOf h23, fun z => ?_, by decide, by decide, by rw [zI_len]; omega, ?_⟩
      · have : (zI r.laps).length = 0 := by rw [z]; rfl
        rw [zI_len] at this
        omega
      (intro q24 hq24; generalize hX : upd _ q24 _ = H24; have e24 := ex_of hX hq24; have h24 := at_of hX; clear hX)
      have fe : (List.replicate (3 : Int).toNat (zI r.laps)).flatten = zI ((List.replicate 3 r.laps).flatten) := by
        unfold zI
        show (List.replicate 3 (r.laps.map V.int)).flatten = _
        simp [List.replicate]
      rw [fe] at h24
      have h22' := (e23.trans e24) _ _ h22
      have fl := flaps_len ho
      have tl : ((List.replicate 3 r.laps).flatten).length = 3 * r.offs.length := by simp [List.replicate, ll]; omega
      refine x_catA (tOf h22') (tOf h24) (by rw [zI_len, zI_len, tl]; omega) fun q25 H25 e25 h25 => ?_
      rw [zI_app] at h25
      have S25 := (S23.ex e24).ex e25
      refine x_name ?_
      dsimp only
      refine x_for (x_irng1 ?_)
      walk_at "rd"
      refine x_lenT h25 ?_
      walk_at "rd"
      refine ⟨_, rfl, by omega, by rw [List.length_append, tl]; omega, ?_⟩
      rw [Int.toNat_natCast]
      refine for_wk (H0 := fun _ => none) (Wk.rng (lo := 0)) (fun i' σ H' => ∃ u14, σ = [some (.ref p), some (.ref d), some (.int (0 + (i : Int))), some (.ref a), some (.int tk), some (.int (r.count tk)), some (.int (r.nth (r.count tk))), some (.int r.beg), some (.int r.len), some (.int r.offs.length), some (.int k), some (.int ((r.early.length : Int) + y)), some (.int (r.nth ((r.early.length : Int) + y + k * r.offs.length))), some (.ref q25), u14, u15] ∧ LS K C d a r H' ∧ SqT K H' q25 (zI (r.flaps ++ (List.replicate 3 r.laps).flatten)))
        ⟨_, rfl, S25, h25⟩ (fun i σ H' _ => hNone) ?_ ?_
      · rintro j x σ H26 hx ⟨u14, rfl, S26, h26⟩
        have hj := lt_of_get hx
        rw [rngV_length] at hj
        rw [rngV_get hj] at hx
        cases hx
        have hj2 := hj
        rw [List.length_append, tl] at hj2
        have lg := laps_get w ho 3 hj
        walk_at "rd"
        refine x_rix S26.R (by omega) (by omega) ho fun H27 e27 => ?_
        walk_at "rd"
        refine x_rix (S26.R.ex e27) (by omega) (by omega) ho fun H28 e28 => ?_
        walk_at "rd"
        have e78 := e27.trans e28
        refine x_ixT (e78.sqT h26) (atI_zI (by omega) (by omega)) ?_
        refine x_rNe rfl ?_
        walk_at "rd"
        have ej : ((0 : Int) + (j : Int)) = j := by omega
        refine x_same (by rw [ej, Int.toNat_natCast, lg]) ?_
        walk_at "rd"
        exact ⟨_, rfl, S26.ex e78, e78.sqT h26⟩
      · rintro σ H26 ⟨u14, rfl, S26, h26⟩
        exact ⟨_, _, _, _, _, _, _, _, _, _, _, _, _, _, rfl, S26.D⟩
    refine x_iteD (fun c => ?_) (fun c => ?_)
    · have hm := nth_ok w (n := r.count tk - 1) (by omega) (.inr ho)
      have hnn := nth_nn w (n := r.count tk - 1) (by omega) (.inr ho)
      have hl := nth_last w ho c
      have hr2 := hl.1
      walk_at "rd"
      refine x_rixS S7 (by omega) (by omega) ho fun H8 S8 => ?_
      walk_at "rd"
      refine x_no (by omega) ?_
      walk_at "rd"
      refine x_rnin S8 hnn (by omega) ?_
      walk_at "rd"
      rw [hm.1]
      refine iteF ?_
      walk_at "rd"
      refine x_rcall S8 hnn (by omega) fun H9 S9 => ?_
      walk_at "rd"
      refine x_rNe rfl ?_
      walk_at "rd"
      refine x_same (by omega) ?_
      walk_at "rd"
      refine x_rin S9 k0 (by omega) ?_
      walk_at "rd"
      cases ht : r.has tk with
      | true =>
        refine iteT ?_
        walk_at "rd"
        refine x_rNe rfl ?_
        walk_at "rd"
        refine x_same (hl.2 ht) ?_
        refine x_next ?_
        exact rest _ H9 S9
      | false =>
        refine iteF ?_
        refine iteF ?_
        refine x_next ?_
        exact rest _ H9 S9
    · refine x_next ?_
      exact rest _ H7 S7
  · rintro σ H2 ⟨u2, u3, u4, u5, u6, u7, u8, u9, u10, u11, u12, u13, u14, u15, rfl, D2⟩
    walk_at "rd"
    exact h H2
end
end TkL

namespace TkL
open PySem PySem.Spec PySem.Calls PyProof.Rows L2 Tk
def top (i : Nat) : Stmt := PySem.Challenge.pw_tracktimes_k33_whole_counts_and_numbers.main.body.getD i (.Pass ⟨0, 0, 0, 0⟩)
section
variable {P : Program} {w : World} {K : PySem.W.Frag} {mg : Str → Option Value} {base : Heap} {C : Addr}
theorem scPis_int_in : FnScope ["value", "low", "high"] ["value", "low", "high"] (defScope (top 16)) := ⟨rfl, rfl, rfl, by decide +kernel, rfl, by decide +kernel, by decide +kernel⟩
theorem okPis_int_in {f : Addr} {fd : FuncData} (F : Fun K "is_int_in" "is_int_in" (top 16) f fd) (T : TyF K C) (c : Cst mg) (b : Blt mg) (R : RowC K mg C)  : FnOk P w K mg base CX0 1 f fd ["value", "low", "high"] (spIii) := by
  refine F.ok scPis_int_in (fun vs H Q E h => ?_) (fun cdv A outer s H vs Q E hr h => ⟨tPis_int_in K, ?_, (rdPis_int_in T vs H Q E h)⟩)
  · (repeat (first | (rw [h.1]; rfl) | (obtain ⟨_, h⟩ := h)))
  · have sc := scPis_int_in
    exact (pss_one (ps_ret (pe_and (pe_callB c_isi (by rfl) b.isinstance (by decide +kernel) (pa_cons (pv 0) (pa_cons (pe_bt b.int) pa_nil))) (pe_and (pe_not (pe_callB c_isi (by rfl) b.isinstance (by decide +kernel) (pa_cons (pv 0) (pa_cons (pe_bt b.bool) pa_nil)))) (pe_one (pe_chain op_le op_le (pv 1) (pv 0) (pv 2)))))))
theorem scRinit : FnScope ["self", "early", "begin", "length", "offsets", "offset"] ["self", "early", "begin", "length", "offsets"] (defScope (inClass (top 18) 3)) := ⟨rfl, rfl, rfl, by decide +kernel, rfl, by decide +kernel, by decide +kernel⟩
theorem okRinit {f : Addr} {fd : FuncData} (F : Fun K "__init__" "Row.__init__" (inClass (top 18) 3) f fd) (T : TyF K C) (c : Cst mg) (b : Blt mg) (R : RowC K mg C)  : FnOk P w K mg base CX0 1 f fd ["self", "early", "begin", "length", "offsets"] (spInit K C) := by
  refine F.ok scRinit (fun vs H Q E h => ?_) (fun cdv A outer s H vs Q E hr h => ⟨tRinit K, ?_, (rdRinit T vs H Q E h)⟩)
  · (repeat (first | (rw [h.1]; rfl) | (obtain ⟨_, h⟩ := h)))
  · have sc := scRinit
    exact (pss_cons (ps_fld (pv 0) (pv 1) rfl)
      (pss_cons (ps_fld (pv 0) (pv 2) rfl)
      (pss_cons (ps_fld (pv 0) (pv 3) rfl)
      (pss_cons (ps_fld (pv 0) (pv 4) rfl)
      (pss_cons (ps_fld (pv 0) (pe_dc (own := [("offset", 5)]) rfl sc.nd (pi_tup (pv 4)) (blkOk_by (by rfl)) (fun _ _ _ _ _ => (pg_name (i := 5) sc.nd rfl (.inl rfl))) (fun _ _ _ _ _ => pts_nil) (fun _ _ _ _ _ => (pv 5)) (fun _ _ _ _ _ => pe_bl)) rfl)
      (pss_one (ps_fld (pv 0) (pe_tup (pa_cons (pv 1) (pa_cons (pv 2) (pa_cons (pv 3) (pa_cons (pv 4) pa_nil))))) rfl)))))))
theorem scRholds : FnScope ["self", "tick"] ["self", "tick"] (defScope (inClass (top 18) 11)) := ⟨rfl, rfl, rfl, by decide +kernel, rfl, by decide +kernel, by decide +kernel⟩
theorem okRholds {f : Addr} {fd : FuncData} (F : Fun K "holds" "Row.holds" (inClass (top 18) 11) f fd) (T : TyF K C) (c : Cst mg) (b : Blt mg) (R : RowC K mg C)  : FnOk P w K mg base CX0 1 f fd ["self", "tick"] (spHolds K C) := by
  refine F.ok scRholds (fun vs H Q E h => ?_) (fun cdv A outer s H vs Q E hr h => ⟨tRholds K, ?_, (rdRholds T vs H Q E h)⟩)
  · (repeat (first | (rw [h.1]; rfl) | (obtain ⟨_, h⟩ := h)))
  · have sc := scRholds
    exact (pss_cons (ps_if (pt_cmpR op_lt (pv 1) (pe_fld (pv 0) rfl) (nomark _)) (pss_one (ps_ret (pe_cmpR op_in_seq (pv 1) (pe_fld (pv 0) rfl) (by rfl)))) pss_nil)
      (pss_one (ps_ret (pe_cmp (pc_din (rm1 hr) (pe_op op_mod (pe_op op_sub (pv 1) (pe_fld (pv 0) rfl)) (pe_fld (pv 0) rfl)) (pe_fld (pv 0) rfl)) rfl))))
theorem scRcount : FnScope ["self", "tick", "rounds", "rest", "one"] ["self", "tick"] (defScope (inClass (top 18) 12)) := ⟨rfl, rfl, rfl, by decide +kernel, rfl, by decide +kernel, by decide +kernel⟩
theorem okRcount {f : Addr} {fd : FuncData} (F : Fun K "count" "Row.count" (inClass (top 18) 12) f fd) (T : TyF K C) (c : Cst mg) (b : Blt mg) (R : RowC K mg C)  : FnOk P w K mg base CX0 1 f fd ["self", "tick"] (spCount K C) := by
  refine F.ok scRcount (fun vs H Q E h => ?_) (fun cdv A outer s H vs Q E hr h => ⟨tRcount K, ?_, (rdRcount T vs H Q E h)⟩)
  · (repeat (first | (rw [h.1]; rfl) | (obtain ⟨_, h⟩ := h)))
  · have sc := scRcount
    exact (pss_cons (ps_if (pt_cmpR op_lt (pv 1) (pe_fld (pv 0) rfl) (nomark _)) (pss_one (ps_ret (pe_callB c_len (by rfl) b.len (by decide +kernel) (pa_cons (pe_lc (own := [("one", 4)]) rfl sc.nd (pi_tup (pe_fld (pv 0) rfl)) (blkOk_by (by rfl)) (fun _ _ _ _ _ => (pg_name (i := 4) sc.nd rfl (.inl rfl))) (fun _ _ _ _ _ => (pts_one (pt_cmpR op_le (pv 4) (pv 1) (nomark _)))) (fun _ _ _ _ _ => (pv 4))) pa_nil)))) pss_nil)
      (pss_cons (ps_asg (pe_callB c_divmod (by rfl) b.divmod (by decide +kernel) (pa_cons (pe_op op_sub (pv 1) (pe_fld (pv 0) rfl)) (pa_cons (pe_fld (pv 0) rfl) pa_nil))) (pg_tup (by rfl) (pgs_cons (pg_name (i := 2) sc.nd rfl (.inl rfl)) (pgs_cons (pg_name (i := 3) sc.nd rfl (.inr rfl)) pgs_nil))))
      (pss_one (ps_ret (pe_op op_add (pe_op op_add (pe_callB c_len (by rfl) b.len (by decide +kernel) (pa_cons (pe_fld (pv 0) rfl) pa_nil)) (pe_op op_mul (pv 2) (pe_callB c_len (by rfl) b.len (by decide +kernel) (pa_cons (pe_fld (pv 0) rfl) pa_nil)))) (pe_callB c_len (by rfl) b.len (by decide +kernel) (pa_cons (pe_lc (own := [("one", 4)]) rfl sc.nd (pi_tup (pe_fld (pv 0) rfl)) (blkOk_by (by rfl)) (fun _ _ _ _ _ => (pg_name (i := 4) sc.nd rfl (.inl rfl))) (fun _ _ _ _ _ => (pts_one (pt_cmpR op_le (pv 4) (pv 3) (nomark _)))) (fun _ _ _ _ _ => (pv 4))) pa_nil)))))))
theorem scRcall : FnScope ["self", "tick"] ["self", "tick"] (defScope (inClass (top 18) 14)) := ⟨rfl, rfl, rfl, by decide +kernel, rfl, by decide +kernel, by decide +kernel⟩
theorem okRcall {f : Addr} {fd : FuncData} (F : Fun K "__call__" "Row.__call__" (inClass (top 18) 14) f fd) (T : TyF K C) (c : Cst mg) (b : Blt mg) (R : RowC K mg C) (Fis_int_in : DefN P w K mg base CX0 1 "is_int_in" ["value", "low", "high"] (spIii)) (Fcount : MetN P w K mg base CX0 1 C "count" ["self", "tick"] (spCount K C)) : FnOk P w K mg base CX0 2 f fd ["self", "tick"] (spCall K C) := by
  refine F.ok scRcall (fun vs H Q E h => ?_) (fun cdv A outer s H vs Q E hr h => ⟨tRcall K C, ?_, (rdRcall T vs H Q E h)⟩)
  · (repeat (first | (rw [h.1]; rfl) | (obtain ⟨_, h⟩ := h)))
  · have sc := scRcall
    exact (pss_cons (ps_if (pt_not (pt_val (pe_def Fis_int_in (hr.mono (by decide)) pass0 (pa_cons (pv 1) (pa_cons pe_int (pa_cons (pe_gi c.MAX_TICK) pa_nil)))))) (pss_one ps_never) pss_nil)
      (pss_one (ps_ret (pe_met R.own.cl Fcount (hr.mono (by decide)) pass0 (pv 0) (pa_cons (pv 1) pa_nil)))))
theorem scRcontains : FnScope ["self", "tick"] ["self", "tick"] (defScope (inClass (top 18) 16)) := ⟨rfl, rfl, rfl, by decide +kernel, rfl, by decide +kernel, by decide +kernel⟩
theorem okRcontains {f : Addr} {fd : FuncData} (F : Fun K "__contains__" "Row.__contains__" (inClass (top 18) 16) f fd) (T : TyF K C) (c : Cst mg) (b : Blt mg) (R : RowC K mg C) (Fis_int_in : DefN P w K mg base CX0 1 "is_int_in" ["value", "low", "high"] (spIii)) (Fholds : MetN P w K mg base CX0 1 C "holds" ["self", "tick"] (spHolds K C)) : FnOk P w K mg base CX0 2 f fd ["self", "tick"] (spContains K C) := by
  refine F.ok scRcontains (fun vs H Q E h => ?_) (fun cdv A outer s H vs Q E hr h => ⟨tRcontains K C, ?_, (rdRcontains T vs H Q E h)⟩)
  · (repeat (first | (rw [h.1]; rfl) | (obtain ⟨_, h⟩ := h)))
  · have sc := scRcontains
    exact (pss_one (ps_ret (pe_and (pe_def Fis_int_in (hr.mono (by decide)) pass0 (pa_cons (pv 1) (pa_cons pe_int (pa_cons (pe_gi c.MAX_TICK) pa_nil)))) (pe_one (pe_met R.own.cl Fholds (hr.mono (by decide)) pass0 (pv 0) (pa_cons (pv 1) pa_nil))))))
theorem scRitem : FnScope ["self", "number", "rounds", "rest"] ["self", "number"] (defScope (inClass (top 18) 18)) := ⟨rfl, rfl, rfl, by decide +kernel, rfl, by decide +kernel, by decide +kernel⟩
theorem okRitem {f : Addr} {fd : FuncData} (F : Fun K "__getitem__" "Row.__getitem__" (inClass (top 18) 18) f fd) (T : TyF K C) (c : Cst mg) (b : Blt mg) (R : RowC K mg C) (Fis_int_in : DefN P w K mg base CX0 1 "is_int_in" ["value", "low", "high"] (spIii)) : FnOk P w K mg base CX0 2 f fd ["self", "number"] (spItem K C) := by
  refine F.ok scRitem (fun vs H Q E h => ?_) (fun cdv A outer s H vs Q E hr h => ⟨tRitem K, ?_, (rdRitem T vs H Q E h)⟩)
  · (repeat (first | (rw [h.1]; rfl) | (obtain ⟨_, h⟩ := h)))
  · have sc := scRitem
    exact (pss_cons (ps_if (pt_not (pt_val (pe_def Fis_int_in (hr.mono (by decide)) pass0 (pa_cons (pv 1) (pa_cons pe_int (pa_cons (pe_gi c.MAX_TICK) pa_nil)))))) (pss_one ps_never) pss_nil)
      (pss_cons (ps_if (pt_cmpR op_lt (pv 1) (pe_callB c_len (by rfl) b.len (by decide +kernel) (pa_cons (pe_fld (pv 0) rfl) pa_nil)) (nomark _)) (pss_one (ps_ret (pe_ix ix_tup (pe_fld (pv 0) rfl) (pv 1) (fun _ _ => rfl)))) pss_nil)
      (pss_cons (ps_if (pt_cmpR (op_eqD (rm64 hr)) (pe_fld (pv 0) rfl) (pe_tup pa_nil) (nomark _)) (pss_one ps_never) pss_nil)
      (pss_cons (ps_asg (pe_callB c_divmod (by rfl) b.divmod (by decide +kernel) (pa_cons (pe_op op_sub (pv 1) (pe_callB c_len (by rfl) b.len (by decide +kernel) (pa_cons (pe_fld (pv 0) rfl) pa_nil))) (pa_cons (pe_callB c_len (by rfl) b.len (by decide +kernel) (pa_cons (pe_fld (pv 0) rfl) pa_nil)) pa_nil))) (pg_tup (by rfl) (pgs_cons (pg_name (i := 2) sc.nd rfl (.inl rfl)) (pgs_cons (pg_name (i := 3) sc.nd rfl (.inl rfl)) pgs_nil))))
      (pss_one (ps_ret (pe_op op_add (pe_op op_add (pe_fld (pv 0) rfl) (pe_op op_mul (pv 2) (pe_fld (pv 0) rfl))) (pe_ix ix_tup (pe_fld (pv 0) rfl) (pv 3) (fun _ _ => rfl)))))))))
theorem scRrepetition : FnScope ["self"] ["self"] (defScope (inClass (top 18) 7)) := ⟨rfl, rfl, rfl, by decide +kernel, rfl, by decide +kernel, by decide +kernel⟩
theorem okRrepetition {f : Addr} {fd : FuncData} (F : Fun K "repetition" "Row.repetition" (inClass (top 18) 7) f fd) (T : TyF K C) (c : Cst mg) (b : Blt mg) (R : RowC K mg C)  : FnOk P w K mg base CX0 1 f fd ["self"] (spRep K C) := by
  refine F.ok scRrepetition (fun vs H Q E h => ?_) (fun cdv A outer s H vs Q E hr h => ⟨tRrepetition K, ?_, (rdRrepetition T vs H Q E h)⟩)
  · (repeat (first | (rw [h.1]; rfl) | (obtain ⟨_, h⟩ := h)))
  · have sc := scRrepetition
    exact (pss_one (ps_ret (pe_tup (pa_cons (pe_fld (pv 0) rfl) (pa_cons (pe_fld (pv 0) rfl) (pa_cons (pe_callB c_len (by rfl) b.len (by decide +kernel) (pa_cons (pe_fld (pv 0) rfl) pa_nil)) pa_nil))))))
theorem scRlaps : FnScope ["self", "found", "place", "offset", "is_last"] ["self"] (defScope (inClass (top 18) 8)) := ⟨rfl, rfl, rfl, by decide +kernel, rfl, by decide +kernel, by decide +kernel⟩
theorem okRlaps {f : Addr} {fd : FuncData} (F : Fun K "laps" "Row.laps" (inClass (top 18) 8) f fd) (T : TyF K C) (c : Cst mg) (b : Blt mg) (R : RowC K mg C)  : FnOk P w K mg base CX0 1 f fd ["self"] (spLaps K C) := by
  refine F.ok scRlaps (fun vs H Q E h => ?_) (fun cdv A outer s H vs Q E hr h => ⟨tRlaps K, ?_, (rdRlaps T vs H Q E h)⟩)
  · (repeat (first | (rw [h.1]; rfl) | (obtain ⟨_, h⟩ := h)))
  · have sc := scRlaps
    exact (pss_cons (ps_set (i := 1) sc.nd rfl (.inl rfl) (pe_lst pa_nil))
      (pss_cons (ps_for PassesOwn.never rfl (pi_enumA b.enumerate (pa_cons (pe_fld (pv 0) rfl) pa_nil)) (pg_tup (by rfl) (pgs_cons (pg_name (i := 2) sc.nd rfl (.inl rfl)) (pgs_cons (pg_name (i := 3) sc.nd rfl (.inl rfl)) pgs_nil))) (pss_cons (ps_set (i := 4) sc.nd rfl (.inl rfl) (pe_cmpR op_eq (pe_op op_add (pv 2) pe_int) (pe_callB c_len (by rfl) b.len (by decide +kernel) (pa_cons (pe_fld (pv 0) rfl) pa_nil)) (nomark _)))
      (pss_one (ps_expr (pe_bm PySem.F.plainAttrs_list PySem.F.slot_list_append PySem.F.type_list_append mt_append (pv 1) (pa_cons (pe_op op_sub (pe_ifExp (pt_val (pv 4)) (pe_op op_add (pe_ix ix_tup (pe_fld (pv 0) rfl) pe_int (fun _ _ => rfl)) (pe_fld (pv 0) rfl)) (pe_ix ix_tup (pe_fld (pv 0) rfl) (pe_op op_add (pv 2) pe_int) (fun _ _ => rfl))) (pv 3)) pa_nil))))))
      (pss_one (ps_ret (pe_callTy c_tuple (by rfl) b.tuple (by decide +kernel) (pa_cons (pv 1) pa_nil))))))
theorem scRfirst_laps : FnScope ["self", "ticks", "place"] ["self"] (defScope (inClass (top 18) 9)) := ⟨rfl, rfl, rfl, by decide +kernel, rfl, by decide +kernel, by decide +kernel⟩
theorem okRfirst_laps {f : Addr} {fd : FuncData} (F : Fun K "first_laps" "Row.first_laps" (inClass (top 18) 9) f fd) (T : TyF K C) (c : Cst mg) (b : Blt mg) (R : RowC K mg C)  : FnOk P w K mg base CX0 1 f fd ["self"] (spFlaps K C) := by
  refine F.ok scRfirst_laps (fun vs H Q E h => ?_) (fun cdv A outer s H vs Q E hr h => ⟨tRfirst_laps K, ?_, (rdRfirst_laps T vs H Q E h)⟩)
  · (repeat (first | (rw [h.1]; rfl) | (obtain ⟨_, h⟩ := h)))
  · have sc := scRfirst_laps
    exact (pss_cons (ps_set (i := 1) sc.nd rfl (.inr rfl) (pe_callTy c_list (by rfl) b.list (by decide +kernel) (pa_cons (pe_fld (pv 0) rfl) pa_nil)))
      (pss_cons (ps_if (pt_cmpR (op_neD (rm64 hr)) (pe_fld (pv 0) rfl) (pe_tup pa_nil) (nomark _)) (pss_one (ps_expr (pe_bm PySem.F.plainAttrs_list PySem.F.slot_list_append PySem.F.type_list_append mt_append (pv 1) (pa_cons (pe_op op_add (pe_fld (pv 0) rfl) (pe_ix ix_tup (pe_fld (pv 0) rfl) pe_int (fun _ _ => rfl))) pa_nil)))) pss_nil)
      (pss_one (ps_ret (pe_callTy c_tuple (by rfl) b.tuple (by decide +kernel) (pa_cons (pe_lc (own := [("place", 2)]) rfl sc.nd (pi_range1 (by rfl) b.range (pa_cons (pe_op op_sub (pe_callB c_len (by rfl) b.len (by decide +kernel) (pa_cons (pv 1) pa_nil)) pe_int) pa_nil)) (blkOk_by (by rfl)) (fun _ _ _ _ _ => (pg_name (i := 2) sc.nd rfl (.inl rfl))) (fun _ _ _ _ _ => pts_nil) (fun _ _ _ _ _ => (pe_op op_sub (pe_ix ix_list (pv 1) (pe_op op_add (pv 2) pe_int) (fun _ _ => rfl)) (pe_ix ix_list (pv 1) (pv 2) (fun _ _ => rfl))))) pa_nil))))))
theorem scPread_number : FnScope ["word", "digit"] ["word"] (defScope (top 19)) := ⟨rfl, rfl, rfl, by decide +kernel, rfl, by decide +kernel, by decide +kernel⟩
theorem okPread_number {f : Addr} {fd : FuncData} (F : Fun K "read_number" "read_number" (top 19) f fd) (T : TyF K C) (c : Cst mg) (b : Blt mg) (R : RowC K mg C)  : FnOk P w K mg base CX0 1 f fd ["word"] (spReadNumber) := by
  refine F.ok scPread_number (fun vs H Q E h => ?_) (fun cdv A outer s H vs Q E hr h => ⟨tPread_number K, ?_, (rdPread_number T vs H Q E h)⟩)
  · (repeat (first | (rw [h.1]; rfl) | (obtain ⟨_, h⟩ := h)))
  · have sc := scPread_number
    exact (pss_cons (ps_if (PW.pt (pw_or (pt_not (pt_chain op_le op_le pe_int (pe_callB c_lenS (by rfl) b.len (by decide +kernel) (pa_cons (pv 0) pa_nil)) (pe_gi c.MAX_DIGITS))) (pw_or1 (pt_val (pe_callB (cr_any rfl) (by rfl) b.any (by decide +kernel) (pa_cons (pe_lc (own := [("digit", 1)]) rfl sc.nd (pi_str (pv 0)) (blkOk_by (by rfl)) (fun _ _ _ _ _ => (pg_name (i := 1) sc.nd rfl (.inl rfl))) (fun _ _ _ _ _ => pts_nil) (fun _ _ _ _ _ => (pe_cmpR o_notInSig (pv 1) (pe_gs c.DIGITS) (by rfl)))) pa_nil)))))) (pss_one (ps_ret pe_non)) pss_nil)
      (pss_one (ps_ret (pe_ifExp (PW.pt (pw_and (pt_cmpR op_gt (pe_callB c_lenS (by rfl) b.len (by decide +kernel) (pa_cons (pv 0) pa_nil)) pe_int (nomark _)) (pw_and1 (pt_cmpR op_eq (pe_ix ix_str (pv 0) pe_int (fun _ _ => rfl)) pe_str (nomark _))))) pe_non (pe_callTy c_intS (by rfl) b.int (by decide +kernel) (pa_cons (pv 0) pa_nil))))))
theorem scPticks_of : FnScope ["numbers", "ticks", "lap"] ["numbers"] (defScope (top 20)) := ⟨rfl, rfl, rfl, by decide +kernel, rfl, by decide +kernel, by decide +kernel⟩
theorem okPticks_of {f : Addr} {fd : FuncData} (F : Fun K "ticks_of" "ticks_of" (top 20) f fd) (T : TyF K C) (c : Cst mg) (b : Blt mg) (R : RowC K mg C)  : FnOk P w K mg base CX0 1 f fd ["numbers"] (spTicksOf K) := by
  refine F.ok scPticks_of (fun vs H Q E h => ?_) (fun cdv A outer s H vs Q E hr h => ⟨tPticks_of K, ?_, (rdPticks_of T vs H Q E h)⟩)
  · (repeat (first | (rw [h.1]; rfl) | (obtain ⟨_, h⟩ := h)))
  · have sc := scPticks_of
    exact (pss_cons (ps_set (i := 1) sc.nd rfl (.inl rfl) (pe_lst (pa_cons (pe_ix ix_list (pv 0) pe_int (fun _ _ => rfl)) pa_nil)))
      (pss_cons (ps_for PassesOwn.never rfl (pi_list (pe_slice sl_list (pv 0) (po_some pe_int) po_none)) (pg_name (i := 2) sc.nd rfl (.inl rfl)) (pss_one (ps_expr (pe_bm PySem.F.plainAttrs_list PySem.F.slot_list_append PySem.F.type_list_append mt_append (pv 1) (pa_cons (pe_op op_add (pe_ix ix_list (pv 1) (pe_un un_neg pe_int) (fun _ _ => rfl)) (pv 2)) pa_nil)))))
      (pss_one (ps_ret (pv 1)))))
theorem scProw_of_ticks : FnScope ["ticks"] ["ticks"] (defScope (top 21)) := ⟨rfl, rfl, rfl, by decide +kernel, rfl, by decide +kernel, by decide +kernel⟩
theorem okProw_of_ticks {f : Addr} {fd : FuncData} (F : Fun K "row_of_ticks" "row_of_ticks" (top 21) f fd) (T : TyF K C) (c : Cst mg) (b : Blt mg) (R : RowC K mg C) (Fnormal : DefN P w K mg base CX0 3 "normal" ["early", "begin", "length", "offsets"] (spNormal K C)) : FnOk P w K mg base CX0 5 f fd ["ticks"] (spRowOfTicks K C) := by
  refine F.ok scProw_of_ticks (fun vs H Q E h => ?_) (fun cdv A outer s H vs Q E hr h => ⟨tProw_of_ticks K C, ?_, (rdProw_of_ticks T vs H Q E h)⟩)
  · (repeat (first | (rw [h.1]; rfl) | (obtain ⟨_, h⟩ := h)))
  · have sc := scProw_of_ticks
    exact (pss_one (ps_ret (pe_def Fnormal (hr.mono (by decide)) pass0 (pa_cons (pv 0) (pa_cons (pe_op op_add (pe_ix ix_list (pv 0) (pe_un un_neg pe_int) (fun _ _ => rfl)) pe_int) (pa_cons pe_int (pa_cons (pe_lst pa_nil) pa_nil)))))))
theorem scProw_of_laps : FnScope ["start", "first", "laps", "early", "begin", "offsets", "length"] ["start", "first", "laps"] (defScope (top 22)) := ⟨rfl, rfl, rfl, by decide +kernel, rfl, by decide +kernel, by decide +kernel⟩
theorem okProw_of_laps {f : Addr} {fd : FuncData} (F : Fun K "row_of_laps" "row_of_laps" (top 22) f fd) (T : TyF K C) (c : Cst mg) (b : Blt mg) (R : RowC K mg C) (Fticks_of : DefN P w K mg base CX0 1 "ticks_of" ["numbers"] (spTicksOf K)) (Fnormal : DefN P w K mg base CX0 3 "normal" ["early", "begin", "length", "offsets"] (spNormal K C)) : FnOk P w K mg base CX0 5 f fd ["start", "first", "laps"] (spRowOfLaps K C) := by
  refine F.ok scProw_of_laps (fun vs H Q E h => ?_) (fun cdv A outer s H vs Q E hr h => ⟨tProw_of_laps K C, ?_, (rdProw_of_laps T vs H Q E h)⟩)
  · (repeat (first | (rw [h.1]; rfl) | (obtain ⟨_, h⟩ := h)))
  · have sc := scProw_of_laps
    exact (pss_cons (ps_set (i := 3) sc.nd rfl (.inl rfl) (pe_def Fticks_of (hr.mono (by decide)) pass0 (pa_cons (pe_op op_cat (pe_lst (pa_cons (pv 0) pa_nil)) (pe_callTy c_list (by rfl) b.list (by decide +kernel) (pa_cons (pv 1) pa_nil))) pa_nil)))
      (pss_cons (ps_set (i := 4) sc.nd rfl (.inl rfl) (pe_bm0 PySem.F.plainAttrs_list PySem.F.slot_list_pop PySem.F.type_list_pop mt_pop (pv 3)))
      (pss_cons (ps_set (i := 5) sc.nd rfl (.inl rfl) (pe_def Fticks_of (hr.mono (by decide)) pass0 (pa_cons (pe_op op_cat (pe_lst (pa_cons pe_int pa_nil)) (pe_callTy c_list (by rfl) b.list (by decide +kernel) (pa_cons (pv 2) pa_nil))) pa_nil)))
      (pss_cons (ps_set (i := 6) sc.nd rfl (.inl rfl) (pe_bm0 PySem.F.plainAttrs_list PySem.F.slot_list_pop PySem.F.type_list_pop mt_pop (pv 5)))
      (pss_one (ps_ret (pe_def Fnormal (hr.mono (by decide)) pass0 (pa_cons (pv 3) (pa_cons (pv 4) (pa_cons (pv 6) (pa_cons (pv 5) pa_nil)))))))))))
theorem scPshortest : FnScope ["length", "offsets", "marks", "size", "offset"] ["length", "offsets"] (defScope (top 23)) := ⟨rfl, rfl, rfl, by decide +kernel, rfl, by decide +kernel, by decide +kernel⟩
theorem okPshortest {f : Addr} {fd : FuncData} (F : Fun K "shortest" "shortest" (top 23) f fd) (T : TyF K C) (c : Cst mg) (b : Blt mg) (R : RowC K mg C)  : FnOk P w K mg base CX0 1 f fd ["length", "offsets"] (spShortest K) := by
  refine F.ok scPshortest (fun vs H Q E h => ?_) (fun cdv A outer s H vs Q E hr h => ⟨tPshortest K, ?_, (rdPshortest T vs H Q E h)⟩)
  · (repeat (first | (rw [h.1]; rfl) | (obtain ⟨_, h⟩ := h)))
  · have sc := scPshortest
    exact (pss_cons (ps_set (i := 2) sc.nd rfl (.inr rfl) (pe_dc (own := [("offset", 4)]) rfl sc.nd (pi_seq (pv 1)) (blkOk_by (by rfl)) (fun _ _ _ _ _ => (pg_name (i := 4) sc.nd rfl (.inl rfl))) (fun _ _ _ _ _ => pts_nil) (fun _ _ _ _ _ => (pv 4)) (fun _ _ _ _ _ => pe_bl)))
      (pss_cons (ps_for PassesOwn.never rfl (pi_range2 (by rfl) b.range (pa_cons pe_int (pa_cons (pv 0) pa_nil))) (pg_name (i := 3) sc.nd rfl (.inr rfl)) (pss_one (ps_if (PW.pt (pw_and (pt_cmpR op_eq (pe_op op_mod (pv 0) (pv 3)) pe_int (nomark _)) (pw_and1 (pt_val (pe_callB (cr_all rfl) (by rfl) b.all (by decide +kernel) (pa_cons (pe_lc (own := [("offset", 4)]) rfl sc.nd (pi_seq (pv 1)) (blkOk_by (by rfl)) (fun _ _ _ _ _ => (pg_name (i := 4) sc.nd rfl (.inl rfl))) (fun _ _ _ _ _ => pts_nil) (fun _ _ _ _ _ => (pe_cmp (pc_din (rm1 hr) (pe_op op_mod (pe_op op_add (pv 4) (pv 3)) (pv 0)) (pv 2)) rfl))) pa_nil)))))) (pss_one (ps_ret (pv 3))) pss_nil)))
      (pss_one (ps_ret (pv 0)))))
theorem scPnormal : FnScope ["early", "begin", "length", "offsets", "size", "marks", "last", "back", "left", "found", "is_early", "offset", "mark"] ["early", "begin", "length", "offsets"] (defScope (top 24)) := ⟨rfl, rfl, rfl, by decide +kernel, rfl, by decide +kernel, by decide +kernel⟩
theorem okPnormal {f : Addr} {fd : FuncData} (F : Fun K "normal" "normal" (top 24) f fd) (T : TyF K C) (c : Cst mg) (b : Blt mg) (R : RowC K mg C) (FmkRow : MkN P w K mg base CX0 1 C (spInit K C)) (Fshortest : DefN P w K mg base CX0 1 "shortest" ["length", "offsets"] (spShortest K)) : FnOk P w K mg base CX0 3 f fd ["early", "begin", "length", "offsets"] (spNormal K C) := by
  refine F.ok scPnormal (fun vs H Q E h => ?_) (fun cdv A outer s H vs Q E hr h => ⟨tPnormal K C, ?_, (rdPnormal T vs H Q E h)⟩)
  · (repeat (first | (rw [h.1]; rfl) | (obtain ⟨_, h⟩ := h)))
  · have sc := scPnormal
    exact (pss_cons (ps_if (pt_cmpR op_eq (pe_callB c_len (by rfl) b.len (by decide +kernel) (pa_cons (pv 3) pa_nil)) pe_int (nomark _)) (pss_one (ps_ret (pe_mkN FmkRow (hr.mono (by decide)) R.gC pass0 (pa_cons (pe_callTy c_tuple (by rfl) b.tuple (by decide +kernel) (pa_cons (pv 0) pa_nil)) (pa_cons (pe_ifExp (pt_cmpR op_gt (pe_callB c_len (by rfl) b.len (by decide +kernel) (pa_cons (pv 0) pa_nil)) pe_int (nomark _)) (pe_op op_add (pe_ix ix_list (pv 0) (pe_un un_neg pe_int) (fun _ _ => rfl)) pe_int) pe_int) (pa_cons pe_int (pa_cons (pe_tup pa_nil) pa_nil))))))) pss_nil)
      (pss_cons (ps_set (i := 4) sc.nd rfl (.inr rfl) (pe_def Fshortest (hr.mono (by decide)) pass0 (pa_cons (pv 2) (pa_cons (pv 3) pa_nil))))
      (pss_cons (ps_setDc (i := 5) (own := [("offset", 11)]) rfl sc.nd rfl rfl (swd_true rfl rfl rfl (by decide +kernel)) (pi_seq (pv 3)) (blkOk_by (by rfl)) (fun _ _ _ _ _ => (pg_name (i := 11) sc.nd rfl (.inl rfl))) (fun _ _ _ _ _ => pts_nil) (fun _ _ _ _ _ => (pe_op op_mod (pv 11) (pv 4))) (fun _ _ _ _ _ => pe_bl))
      (pss_cons (ps_asg (pe_tup (pa_cons (pv 1) (pa_cons pe_int (pa_cons (pe_callB c_len (by rfl) b.len (by decide +kernel) (pa_cons (pv 0) pa_nil)) pa_nil)))) (pg_tup (by rfl) (pgs_cons (pg_name (i := 6) sc.nd rfl (.inl rfl)) (pgs_cons (pg_name (i := 7) sc.nd rfl (.inr rfl)) (pgs_cons (pg_name (i := 8) sc.nd rfl (.inl rfl)) pgs_nil)))))
      (pss_cons (ps_while PassesOwn.never (pt_cmpR op_gt (pv 6) pe_int (nomark _)) (pss_cons (ps_set (i := 10) sc.nd rfl (.inl rfl) (pe_and (pe_cmpR op_gt (pv 8) pe_int (nomark _)) (pe_one (pe_cmpR op_eq (pe_ix ix_list (pv 0) (pe_op op_sub (pv 8) pe_int) (fun _ _ => rfl)) (pe_op op_sub (pv 6) pe_int) (nomark _)))))
      (pss_cons (ps_if (pt_cmpR op_ne (pv 10) (pe_cmp (pc_din (rm1 hr) (pe_op op_mod (pe_op op_sub (pe_un un_neg pe_int) (pv 7)) (pv 4)) (pv 5)) rfl) (nomark _)) (pss_one ps_break) pss_nil)
      (pss_one (ps_asg (pe_tup (pa_cons (pe_op op_sub (pv 6) pe_int) (pa_cons (pe_op op_add (pv 7) pe_int) (pa_cons (pe_op op_sub (pv 8) (pe_callTy c_int (by rfl) b.int (by decide +kernel) (pa_cons (pv 10) pa_nil))) pa_nil)))) (pg_tup (by rfl) (pgs_cons (pg_name (i := 6) sc.nd rfl (.inl rfl)) (pgs_cons (pg_name (i := 7) sc.nd rfl (.inr rfl)) (pgs_cons (pg_name (i := 8) sc.nd rfl (.inl rfl)) pgs_nil)))))))))
      (pss_cons (ps_lock (ps_setLc (i := 9) (own := [("mark", 12)]) rfl sc.nd rfl rfl (sw_true rfl rfl rfl (by decide +kernel)) (pi_keys (pv 5)) (blkOk_by (by rfl)) (fun _ _ _ _ _ => (pg_name (i := 12) sc.nd rfl (.inl rfl))) (fun _ _ _ _ _ => pts_nil) (fun _ _ _ _ _ => (pe_op op_mod (pe_op op_add (pv 12) (pv 7)) (pv 4)))))
      (pss_one (ps_ret (pe_mkN FmkRow (hr.mono (by decide)) R.gC pass0 (pa_cons (pe_callTy c_tuple (by rfl) b.tuple (by decide +kernel) (pa_cons (pe_slice sl_list (pv 0) po_none (po_some (pv 8))) pa_nil)) (pa_cons (pv 6) (pa_cons (pv 4) (pa_cons (pe_callTy c_tuple (by rfl) b.tuple (by decide +kernel) (pa_cons (pe_callB cr_sortedI (by rfl) b.sorted (by decide +kernel) (pa_cons (pe_lc (own := [("mark", 12)]) rfl sc.nd (pi_list (pv 9)) (blkOk_by (by rfl)) (fun _ _ _ _ _ => (pg_name (i := 12) sc.nd rfl (.inl rfl))) (fun _ _ _ _ _ => pts_nil) (fun _ _ _ _ _ => (pe_callTy c_int (by rfl) b.int (by decide +kernel) (pa_cons (pv 12) pa_nil)))) pa_nil)) pa_nil)) pa_nil)))))))))))))
theorem scRparse : FnScope ["cls", "text", "words", "numbers", "bar", "place", "word", "number"] ["cls", "text"] (defScope (inClass (top 18) 5)) := ⟨rfl, rfl, rfl, by decide +kernel, rfl, by decide +kernel, by decide +kernel⟩
theorem okRparse {f : Addr} {fd : FuncData} (F : Fun K "parse" "Row.parse" (inClass (top 18) 5) f fd) (T : TyF K C) (c : Cst mg) (b : Blt mg) (R : RowC K mg C) (FmkRow : MkN P w K mg base CX0 1 C (spInit K C)) (Fread_number : DefN P w K mg base CX0 1 "read_number" ["word"] (spReadNumber)) (Frow_of_ticks : DefN P w K mg base CX0 5 "row_of_ticks" ["ticks"] (spRowOfTicks K C)) (Fticks_of : DefN P w K mg base CX0 1 "ticks_of" ["numbers"] (spTicksOf K)) (Frow_of_laps : DefN P w K mg base CX0 5 "row_of_laps" ["start", "first", "laps"] (spRowOfLaps K C)) : FnOk P w K mg base CX0 6 f fd ["cls", "text"] (spParse K C) := by
  refine F.ok scRparse (fun vs H Q E h => ?_) (fun cdv A outer s H vs Q E hr h => ⟨tRparse K C, ?_, (rdRparse T vs H Q E h)⟩)
  · (repeat (first | (rw [h.1]; rfl) | (obtain ⟨_, h⟩ := h)))
  · have sc := scRparse
    exact (pss_cons (ps_if (pt_cmpR op_eq (pv 1) (pe_gs c.NEVER) (nomark _)) (pss_one (ps_ret (pe_mkV (i := 0) FmkRow (hr.mono (by decide)) pass0 (pa_cons (pe_tup pa_nil) (pa_cons pe_int (pa_cons pe_int (pa_cons (pe_tup pa_nil) pa_nil))))))) pss_nil)
      (pss_cons (ps_set (i := 2) sc.nd rfl (.inl rfl) (pe_bm PySem.F.plainAttrs_str PySem.F.slot_str_split PySem.F.type_str_split m_split (pv 1) (pa_cons pe_str pa_nil)))
      (pss_cons (ps_par (i := 3) (j := 4) (by rfl) sc.nd rfl rfl (by decide) rfl rfl (pa_cons (pe_lst pa_nil) (pa_cons pe_non pa_nil)) (by rfl))
      (pss_cons (ps_for PassesOwn.never rfl (pi_enumA b.enumerate (pa_cons (pv 2) pa_nil)) (pg_tup (by rfl) (pgs_cons (pg_name (i := 5) sc.nd rfl (.inl rfl)) (pgs_cons (pg_name (i := 6) sc.nd rfl (.inl rfl)) pgs_nil))) (pss_one (ps_if (PW.pt (pw_and (pt_cmpR op_eq (pv 6) (pe_gs c.BAR) (nomark _)) (pw_and (pt_cmpR o_isNon (pv 4) pe_non (nomark _)) (pw_and1 (pt_cmpR op_gt (pv 5) pe_int (nomark _)))))) (pss_one (ps_set (i := 4) sc.nd rfl (.inl rfl) (pe_callB c_len (by rfl) b.len (by decide +kernel) (pa_cons (pv 3) pa_nil)))) (pss_cons (ps_set (i := 7) sc.nd rfl (.inl rfl) (pe_def Fread_number (hr.mono (by decide)) pass0 (pa_cons (pv 6) pa_nil)))
      (pss_cons (ps_if (PW.pt (pw_or (pt_cmpR o_isNon (pv 7) pe_non (nomark _)) (pw_or (PW.pt (pw_and (pt_cmpR op_eq (pv 7) pe_int (nomark _)) (pw_and1 (pt_cmpR op_gt (pv 5) pe_int (nomark _))))) (pw_or1 (pt_cmpR op_gt (pv 7) (pe_gi c.MAX_BEGIN) (nomark _)))))) (pss_one ps_never) pss_nil)
      (pss_cons (ps_expr (pe_bm PySem.F.plainAttrs_list PySem.F.slot_list_append PySem.F.type_list_append mt_append (pv 3) (pa_cons (pv 7) pa_nil)))
      (pss_one (ps_if (PW.pt (pw_or (PW.pt (pw_and (pt_cmpR o_isNon (pv 4) pe_non (nomark _)) (pw_and1 (pt_cmpR op_gt (pe_callB (cr_sum rfl) (by rfl) b.sum (by decide +kernel) (pa_cons (pv 3) pa_nil)) (pe_gi c.MAX_BEGIN) (nomark _))))) (pw_or1 (PW.pt (pw_and (pt_cmpR o_notNon (pv 4) pe_non (nomark _)) (pw_and1 (pt_cmpR op_gt (pe_callB (cr_sum rfl) (by rfl) b.sum (by decide +kernel) (pa_cons (pe_slice sl_list (pv 3) (po_some (pv 4)) po_none) pa_nil)) (pe_gi c.MAX_LENGTH) (nomark _)))))))) (pss_one ps_never) pss_nil))))))))
      (pss_cons (ps_if (pt_cmpR o_isNon (pv 4) pe_non (nomark _)) (pss_one (ps_ret (pe_def Frow_of_ticks (hr.mono (by decide)) pass0 (pa_cons (pe_def Fticks_of (hr.mono (by decide)) pass0 (pa_cons (pv 3) pa_nil)) pa_nil)))) pss_nil)
      (pss_cons (ps_if (pt_cmpR op_eq (pv 4) (pe_callB c_len (by rfl) b.len (by decide +kernel) (pa_cons (pv 3) pa_nil)) (nomark _)) (pss_one ps_never) pss_nil)
      (pss_one (ps_ret (pe_def Frow_of_laps (hr.mono (by decide)) pass0 (pa_cons (pe_ix ix_list (pv 3) pe_int (fun _ _ => rfl)) (pa_cons (pe_slice sl_list (pv 3) (po_some pe_int) (po_some (pv 4))) (pa_cons (pe_slice sl_list (pv 3) (po_some (pv 4)) po_none) pa_nil))))))))))))
theorem scLrandom : FnScope ["_law_script", "_law_salt", "_law_seed", "_law_cell"] ["_law_script", "_law_salt"] (defScope (top 27)) := ⟨rfl, rfl, rfl, by decide +kernel, rfl, by decide +kernel, by decide +kernel⟩
theorem okLrandom {f : Addr} {fd : FuncData} (F : Fun K "_law_random" "_law_random" (top 27) f fd) (T : TyF K C) (c : Cst mg) (b : Blt mg) (R : RowC K mg C)  : FnOk P w K mg base CX0 1 f fd ["_law_script", "_law_salt"] (spRandom K) := by
  refine F.ok scLrandom (fun vs H Q E h => ?_) (fun cdv A outer s H vs Q E hr h => ⟨tLrandom K, ?_, (rdLrandom T vs H Q E h)⟩)
  · (repeat (first | (rw [h.1]; rfl) | (obtain ⟨_, h⟩ := h)))
  · have sc := scLrandom
    exact (pss_cons (ps_set (i := 2) sc.nd rfl (.inl rfl) (pv 1))
      (pss_cons (ps_for PassesOwn.never rfl (pi_list (pv 0)) (pg_name (i := 3) sc.nd rfl (.inl rfl)) (pss_one (ps_set (i := 2) sc.nd rfl (.inl rfl) (pe_op op_mod (pe_op op_add (pe_op op_mul (pv 2) pe_int) (pe_callB c_abs (by rfl) b.abs (by decide +kernel) (pa_cons (pv 3) pa_nil))) pe_int))))
      (pss_one (ps_ret (pe_op op_cat (pe_lst (pa_cons (pv 2) (pa_cons pe_int pa_nil))) (pe_lc (own := [("_law_cell", 3)]) rfl sc.nd (pi_list (pv 0)) (blkOk_by (by rfl)) (fun _ _ _ _ _ => (pg_name (i := 3) sc.nd rfl (.inl rfl))) (fun _ _ _ _ _ => (pts_one (pt_cmpR op_ge (pv 3) (pe_op op_pow pe_int pe_int) (nomark _)))) (fun _ _ _ _ _ => (pv 3))))))))
theorem scLbelow : FnScope ["_law_d", "_law_limit", "_law_result"] ["_law_d", "_law_limit"] (defScope (top 29)) := ⟨rfl, rfl, rfl, by decide +kernel, rfl, by decide +kernel, by decide +kernel⟩
theorem okLbelow {f : Addr} {fd : FuncData} (F : Fun K "_law_below" "_law_below" (top 29) f fd) (T : TyF K C) (c : Cst mg) (b : Blt mg) (R : RowC K mg C)  : FnOk P w K mg base CX0 1 f fd ["_law_d", "_law_limit"] (spBelow) := by
  refine F.ok scLbelow (fun vs H Q E h => ?_) (fun cdv A outer s H vs Q E hr h => ⟨tLbelow K, ?_, (rdLbelow T vs H Q E h)⟩)
  · (repeat (first | (rw [h.1]; rfl) | (obtain ⟨_, h⟩ := h)))
  · have sc := scLbelow
    exact (pss_cons (ps_if (PW.pt (pw_and (pt_cmpR op_eq (pe_ix ix_list (pv 0) pe_int (fun _ _ => rfl)) pe_int (nomark _)) (pw_and1 (pt_cmpR op_gt (pe_callB c_len (by rfl) b.len (by decide +kernel) (pa_cons (pv 0) pa_nil)) pe_int (nomark _))))) (pss_one (ps_asg (pe_bm PySem.F.plainAttrs_list PySem.F.slot_list_pop PySem.F.type_list_pop mt_popAt (pv 0) (pa_cons pe_int pa_nil)) (pg_sub (pv 0) pe_int set_list))) pss_nil)
      (pss_cons (ps_if (pt_cmpR op_gt (pe_ix ix_list (pv 0) pe_int (fun _ _ => rfl)) pe_int (nomark _)) (pss_cons (ps_set (i := 2) sc.nd rfl (.inl rfl) (pe_op op_mod (pe_ix ix_list (pv 0) pe_int (fun _ _ => rfl)) (pv 1)))
      (pss_cons (ps_asg (pe_op op_fdiv (pe_ix ix_list (pv 0) pe_int (fun _ _ => rfl)) (pv 1)) (pg_sub (pv 0) pe_int set_list))
      (pss_one (ps_ret (pv 2))))) pss_nil)
      (pss_cons (ps_asg (pe_op op_mod (pe_op op_add (pe_op op_mul (pe_ix ix_list (pv 0) pe_int (fun _ _ => rfl)) pe_int) pe_int) pe_int) (pg_sub (pv 0) pe_int set_list))
      (pss_one (ps_ret (pe_op op_mod (pe_op op_fdiv (pe_ix ix_list (pv 0) pe_int (fun _ _ => rfl)) pe_int) (pv 1)))))))
theorem scLlaps : FnScope ["_law_d", "_law_most", "_law_longest", "_law_k"] ["_law_d", "_law_most"] (defScope (top 30)) := ⟨rfl, rfl, rfl, by decide +kernel, rfl, by decide +kernel, by decide +kernel⟩
theorem okLlaps {f : Addr} {fd : FuncData} (F : Fun K "_law_laps" "_law_laps" (top 30) f fd) (T : TyF K C) (c : Cst mg) (b : Blt mg) (R : RowC K mg C) (F_law_below : DefN P w K mg base CX0 1 "_law_below" ["_law_d", "_law_limit"] (spBelow)) : FnOk P w K mg base CX0 2 f fd ["_law_d", "_law_most"] (spLawLaps) := by
  refine F.ok scLlaps (fun vs H Q E h => ?_) (fun cdv A outer s H vs Q E hr h => ⟨tLlaps K, ?_, (rdLlaps T vs H Q E h)⟩)
  · (repeat (first | (rw [h.1]; rfl) | (obtain ⟨_, h⟩ := h)))
  · have sc := scLlaps
    exact (pss_cons (ps_set (i := 2) sc.nd rfl (.inr rfl) (pe_ix ix_list (pe_lst (pa_cons pe_int (pa_cons pe_int (pa_cons pe_int pa_nil)))) (pe_def F_law_below (hr.mono (by decide)) pass0 (pa_cons (pv 0) (pa_cons pe_int pa_nil))) (fun _ _ => rfl)))
      (pss_one (ps_ret (pe_callTy c_tuple (by rfl) b.tuple (by decide +kernel) (pa_cons (pe_lc (own := [("_law_k", 3)]) rfl sc.nd (pi_range1 (by rfl) b.range (pa_cons (pe_op op_add pe_int (pe_def F_law_below (hr.mono (by decide)) pass0 (pa_cons (pv 0) (pa_cons (pv 1) pa_nil)))) pa_nil)) (blkOk_by (by rfl)) (fun _ _ _ _ _ => (pg_name (i := 3) sc.nd rfl (.inl rfl))) (fun _ _ _ _ _ => pts_nil) (fun _ _ _ _ _ => (pe_op op_add pe_int (pe_def F_law_below (hr.mono (by decide)) pass0 (pa_cons (pv 0) (pa_cons (pv 2) pa_nil)))))) pa_nil)))))
theorem scLplan : FnScope ["_law_d", "_law_most", "_law_first"] ["_law_d", "_law_most"] (defScope (top 31)) := ⟨rfl, rfl, rfl, by decide +kernel, rfl, by decide +kernel, by decide +kernel⟩
theorem okLplan {f : Addr} {fd : FuncData} (F : Fun K "_law_plan" "_law_plan" (top 31) f fd) (T : TyF K C) (c : Cst mg) (b : Blt mg) (R : RowC K mg C) (F_law_below : DefN P w K mg base CX0 1 "_law_below" ["_law_d", "_law_limit"] (spBelow)) (F_law_laps : DefN P w K mg base CX0 2 "_law_laps" ["_law_d", "_law_most"] (spLawLaps)) : FnOk P w K mg base CX0 3 f fd ["_law_d", "_law_most"] (spPlan) := by
  refine F.ok scLplan (fun vs H Q E h => ?_) (fun cdv A outer s H vs Q E hr h => ⟨tLplan K, ?_, (rdLplan T vs H Q E h)⟩)
  · (repeat (first | (rw [h.1]; rfl) | (obtain ⟨_, h⟩ := h)))
  · have sc := scLplan
    exact (pss_cons (ps_set (i := 2) sc.nd rfl (.inl rfl) (pe_ifExp (pt_cmpR op_eq (pe_def F_law_below (hr.mono (by decide)) pass0 (pa_cons (pv 0) (pa_cons pe_int pa_nil))) pe_int (nomark _)) (pe_tup pa_nil) (pe_def F_law_laps (hr.mono (by decide)) pass0 (pa_cons (pv 0) (pa_cons pe_int pa_nil)))))
      (pss_one (ps_ret (pe_tup (pa_cons (pe_def F_law_below (hr.mono (by decide)) pass0 (pa_cons (pv 0) (pa_cons (pe_ix ix_list (pe_lst (pa_cons pe_int (pa_cons pe_int pa_nil))) (pe_def F_law_below (hr.mono (by decide)) pass0 (pa_cons (pv 0) (pa_cons pe_int pa_nil))) (fun _ _ => rfl)) pa_nil))) (pa_cons (pv 2) (pa_cons (pe_def F_law_laps (hr.mono (by decide)) pass0 (pa_cons (pv 0) (pa_cons (pv 1) pa_nil))) pa_nil)))))))
theorem scLrow : FnScope ["_law_plan_here", "_law_start", "_law_first", "_law_laps_here", "_law_lap", "_law_number"] ["_law_plan_here"] (defScope (top 28)) := ⟨rfl, rfl, rfl, by decide +kernel, rfl, by decide +kernel, by decide +kernel⟩
theorem okLrow {f : Addr} {fd : FuncData} (F : Fun K "_law_row" "_law_row" (top 28) f fd) (T : TyF K C) (c : Cst mg) (b : Blt mg) (R : RowC K mg C) (Fparse : CmN P w K mg base CX0 6 C "parse" (spParse K C)) : FnOk P w K mg base CX0 8 f fd ["_law_plan_here"] (spLawRow K C) := by
  refine F.ok scLrow (fun vs H Q E h => ?_) (fun cdv A outer s H vs Q E hr h => ⟨tLrow K C, ?_, (rdLrow T vs H Q E h)⟩)
  · (repeat (first | (rw [h.1]; rfl) | (obtain ⟨_, h⟩ := h)))
  · have sc := scLrow
    exact (pss_cons (ps_asg (pv 0) (pg_tup (by rfl) (pgs_cons (pg_name (i := 1) sc.nd rfl (.inl rfl)) (pgs_cons (pg_name (i := 2) sc.nd rfl (.inl rfl)) (pgs_cons (pg_name (i := 3) sc.nd rfl (.inl rfl)) pgs_nil)))))
      (pss_one (ps_ret (pe_cm Fparse (hr.mono (by decide)) pass0 (pe_gc R.gC) (pa_cons (pe_bm PySem.F.plainAttrs_str PySem.F.slot_str_join PySem.F.type_str_join m_join pe_str (pa_cons (pe_op op_cat (pe_op op_cat (pe_lc (own := [("_law_number", 5)]) rfl sc.nd (pi_tup (pe_op op_catA (pe_tup (pa_cons (pv 1) pa_nil)) (pv 2))) (blkOk_by (by rfl)) (fun _ _ _ _ _ => (pg_name (i := 5) sc.nd rfl (.inl rfl))) (fun _ _ _ _ _ => pts_nil) (fun _ _ _ _ _ => (pe_callTy c_str (by rfl) b.str (by decide +kernel) (pa_cons (pv 5) pa_nil)))) (pe_lst (pa_cons pe_str pa_nil))) (pe_lc (own := [("_law_lap", 4)]) rfl sc.nd (pi_tup (pv 3)) (blkOk_by (by rfl)) (fun _ _ _ _ _ => (pg_name (i := 4) sc.nd rfl (.inl rfl))) (fun _ _ _ _ _ => pts_nil) (fun _ _ _ _ _ => (pe_callTy c_str (by rfl) b.str (by decide +kernel) (pa_cons (pv 4) pa_nil))))) pa_nil)) pa_nil)))))
theorem scLsome_tick : FnScope ["_law_d"] ["_law_d"] (defScope (top 32)) := ⟨rfl, rfl, rfl, by decide +kernel, rfl, by decide +kernel, by decide +kernel⟩
theorem okLsome_tick {f : Addr} {fd : FuncData} (F : Fun K "_law_some_tick" "_law_some_tick" (top 32) f fd) (T : TyF K C) (c : Cst mg) (b : Blt mg) (R : RowC K mg C) (F_law_below : DefN P w K mg base CX0 1 "_law_below" ["_law_d", "_law_limit"] (spBelow)) : FnOk P w K mg base CX0 2 f fd ["_law_d"] (spSomeTick) := by
  refine F.ok scLsome_tick (fun vs H Q E h => ?_) (fun cdv A outer s H vs Q E hr h => ⟨tLsome_tick K, ?_, (rdLsome_tick T vs H Q E h)⟩)
  · (repeat (first | (rw [h.1]; rfl) | (obtain ⟨_, h⟩ := h)))
  · have sc := scLsome_tick
    exact (pss_one (ps_ret (pe_ix ix_list (pe_lst (pa_cons (pe_def F_law_below (hr.mono (by decide)) pass0 (pa_cons (pv 0) (pa_cons pe_int pa_nil))) (pa_cons (pe_op op_sub (pe_op op_pow pe_int pe_int) (pe_def F_law_below (hr.mono (by decide)) pass0 (pa_cons (pv 0) (pa_cons (pe_op op_pow pe_int pe_int) pa_nil)))) pa_nil))) (pe_def F_law_below (hr.mono (by decide)) pass0 (pa_cons (pv 0) (pa_cons pe_int pa_nil))) (fun _ _ => rfl))))
theorem scPlaw : FnScope ["_law_script", "_law_d", "_law_turn", "_law_row_here", "_law_tick", "_law_many", "_law_coming", "_law_begin", "_law_length", "_law_size", "_law_rounds", "_law_number", "_law_far", "_law_laps_here", "_law_k", "_law_last"] ["_law_script"] (defScope (top 33)) := ⟨rfl, rfl, rfl, by decide +kernel, rfl, by decide +kernel, by decide +kernel⟩
theorem okPlaw {f : Addr} {fd : FuncData} (F : Fun K "law" "law" (top 33) f fd) (T : TyF K C) (c : Cst mg) (b : Blt mg) (R : RowC K mg C) (F_law_random : DefN P w K mg base CX0 1 "_law_random" ["_law_script", "_law_salt"] (spRandom K)) (F_law_row : DefN P w K mg base CX0 8 "_law_row" ["_law_plan_here"] (spLawRow K C)) (F_law_plan : DefN P w K mg base CX0 3 "_law_plan" ["_law_d", "_law_most"] (spPlan)) (F_law_some_tick : DefN P w K mg base CX0 2 "_law_some_tick" ["_law_d"] (spSomeTick)) (Fcall : MetN P w K mg base CX0 2 C "__call__" ["self", "tick"] (spCall K C)) (Fcontains : MetN P w K mg base CX0 2 C "__contains__" ["self", "tick"] (spContains K C)) (Fitem : MetN P w K mg base CX0 2 C "__getitem__" ["self", "number"] (spItem K C)) (Frepetition : PropN P w K mg base CX0 1 C "repetition" (spRep K C)) (F_law_below : DefN P w K mg base CX0 1 "_law_below" ["_law_d", "_law_limit"] (spBelow)) (Ffirst_laps : PropN P w K mg base CX0 1 C "first_laps" (spFlaps K C)) (Flaps : PropN P w K mg base CX0 1 C "laps" (spLaps K C)) : FnOk P w K mg base CX0 9 f fd ["_law_script"] (spLaw K) := by
  refine F.ok scPlaw (fun vs H Q E h => ?_) (fun cdv A outer s H vs Q E hr h => ⟨tPlaw K C, ?_, (rdPlaw T vs H Q E h)⟩)
  · (repeat (first | (rw [h.1]; rfl) | (obtain ⟨_, h⟩ := h)))
  · have sc := scPlaw
    exact (pss_cons (ps_set (i := 1) sc.nd rfl (.inl rfl) (pe_def F_law_random (hr.mono (by decide)) pass0 (pa_cons (pv 0) (pa_cons pe_int pa_nil))))
      (pss_cons (ps_for PassesOwn.never rfl (pi_range1 (by rfl) b.range (pa_cons pe_int pa_nil)) (pg_name (i := 2) sc.nd rfl (.inl rfl)) (pss_cons (ps_set (i := 3) sc.nd rfl (.inl rfl) (pe_def F_law_row (hr.mono (by decide)) pass0 (pa_cons (pe_def F_law_plan (hr.mono (by decide)) pass0 (pa_cons (pv 1) (pa_cons pe_int pa_nil))) pa_nil)))
      (pss_cons (ps_set (i := 4) sc.nd rfl (.inl rfl) (pe_callB (c_min2 rfl) (by rfl) b.min (by decide +kernel) (pa_cons (pe_def F_law_some_tick (hr.mono (by decide)) pass0 (pa_cons (pv 1) pa_nil)) (pa_cons (pe_op op_sub (pe_op op_pow pe_int pe_int) pe_int) pa_nil))))
      (pss_cons (ps_set (i := 5) sc.nd rfl (.inl rfl) (pe_insN Fcall (hr.mono (by decide)) pass0 (pv 3) (pa_cons (pv 4) pa_nil)))
      (pss_cons (ps_if (pt_cmpR op_ne (pe_op op_sub (pe_insN Fcall (hr.mono (by decide)) pass0 (pv 3) (pa_cons (pe_op op_add (pv 4) pe_int) pa_nil)) (pv 5)) (pe_callTy c_int (by rfl) b.int (by decide +kernel) (pa_cons (pe_cmpR (op_inOwn Fcontains (hr.mono (by decide)) pass0) (pe_op op_add (pv 4) pe_int) (pv 3) (by rfl)) pa_nil)) (nomark _)) (pss_one (ps_ret pe_bl)) pss_nil)
      (pss_cons (ps_if (pt_cmpR op_gt (pv 5) pe_int (nomark _)) (pss_cons (ps_set (i := 15) sc.nd rfl (.inl rfl) (pe_ixOwn Fitem (hr.mono (by decide)) pass0 (pv 3) (pe_op op_sub (pv 5) pe_int)))
      (pss_one (ps_if (PW.pt (pw_or (pt_cmpR op_gt (pv 15) (pv 4) (nomark _)) (pw_or (pt_cmpR (op_notInOwn Fcontains (hr.mono (by decide)) pass0) (pv 15) (pv 3) (by rfl)) (pw_or (pt_cmpR op_ne (pe_insN Fcall (hr.mono (by decide)) pass0 (pv 3) (pa_cons (pv 15) pa_nil)) (pv 5) (nomark _)) (pw_or1 (PW.pt (pw_and (pt_cmpR (op_inOwn Fcontains (hr.mono (by decide)) pass0) (pv 4) (pv 3) (by rfl)) (pw_and1 (pt_cmpR op_ne (pv 15) (pv 4) (nomark _)))))))))) (pss_one (ps_ret pe_bl)) pss_nil))) pss_nil)
      (pss_cons (ps_set (i := 6) sc.nd rfl (.inl rfl) (pe_ixOwn Fitem (hr.mono (by decide)) pass0 (pv 3) (pv 5)))
      (pss_cons (ps_if (PW.pt (pw_or (pt_cmpR op_le (pv 6) (pv 4) (nomark _)) (pw_or1 (pt_cmpR op_gt (pe_op op_sub (pv 6) (pv 4)) (pe_op op_add pe_int (pe_ixOwn Fitem (hr.mono (by decide)) pass0 (pv 3) pe_int)) (nomark _))))) (pss_one (ps_ret pe_bl)) pss_nil)
      (pss_cons (ps_if (pt_cmpR op_ne (pe_insN Fcall (hr.mono (by decide)) pass0 (pv 3) (pa_cons (pe_callB (c_min2 rfl) (by rfl) b.min (by decide +kernel) (pa_cons (pv 6) (pa_cons (pe_op op_pow pe_int pe_int) pa_nil))) pa_nil)) (pe_op op_add (pv 5) (pe_callTy c_int (by rfl) b.int (by decide +kernel) (pa_cons (pe_cmpR op_le (pv 6) (pe_op op_pow pe_int pe_int) (nomark _)) pa_nil))) (nomark _)) (pss_one (ps_ret pe_bl)) pss_nil)
      (pss_cons (ps_asg (pe_prp R.own.cl Frepetition (hr.mono (by decide)) pass0 (pv 3)) (pg_tup (by rfl) (pgs_cons (pg_name (i := 7) sc.nd rfl (.inl rfl)) (pgs_cons (pg_name (i := 8) sc.nd rfl (.inl rfl)) (pgs_cons (pg_name (i := 9) sc.nd rfl (.inl rfl)) pgs_nil)))))
      (pss_cons (ps_set (i := 10) sc.nd rfl (.inl rfl) (pe_def F_law_below (hr.mono (by decide)) pass0 (pa_cons (pv 1) (pa_cons (pe_op op_pow pe_int pe_int) pa_nil))))
      (pss_cons (ps_if (pt_cmpR op_ne (pe_op op_sub (pe_insN Fcall (hr.mono (by decide)) pass0 (pv 3) (pa_cons (pe_op op_add (pv 7) (pe_op op_mul (pv 10) (pv 8))) pa_nil)) (pe_insN Fcall (hr.mono (by decide)) pass0 (pv 3) (pa_cons (pv 7) pa_nil))) (pe_op op_mul (pv 10) (pv 9)) (nomark _)) (pss_one (ps_ret pe_bl)) pss_nil)
      (pss_cons (ps_set (i := 11) sc.nd rfl (.inl rfl) (pe_op op_add (pe_callB c_len (by rfl) b.len (by decide +kernel) (pa_cons (pe_prp R.own.cl Ffirst_laps (hr.mono (by decide)) pass0 (pv 3)) pa_nil)) (pe_def F_law_below (hr.mono (by decide)) pass0 (pa_cons (pv 1) (pa_cons pe_int pa_nil)))))
      (pss_cons (ps_set (i := 12) sc.nd rfl (.inl rfl) (pe_ixOwn Fitem (hr.mono (by decide)) pass0 (pv 3) (pe_op op_add (pv 11) (pe_op op_mul (pv 10) (pv 9)))))
      (pss_cons (ps_if (pt_cmpR op_ne (pv 12) (pe_op op_add (pe_ixOwn Fitem (hr.mono (by decide)) pass0 (pv 3) (pv 11)) (pe_op op_mul (pv 10) (pv 8))) (nomark _)) (pss_one (ps_ret pe_bl)) pss_nil)
      (pss_cons (ps_if (pt_cmpR op_le (pe_ixOwn Fitem (hr.mono (by decide)) pass0 (pv 3) (pe_op op_add (pv 11) pe_int)) (pe_ixOwn Fitem (hr.mono (by decide)) pass0 (pv 3) (pv 11)) (nomark _)) (pss_one (ps_ret pe_bl)) pss_nil)
      (pss_cons (ps_set (i := 13) sc.nd rfl (.inl rfl) (pe_op op_catA (pe_prp R.own.cl Ffirst_laps (hr.mono (by decide)) pass0 (pv 3)) (pe_op op_repT (pe_prp R.own.cl Flaps (hr.mono (by decide)) pass0 (pv 3)) pe_int)))
      (pss_one (ps_for PassesOwn.never rfl (pi_range1 (by rfl) b.range (pa_cons (pe_callB c_len (by rfl) b.len (by decide +kernel) (pa_cons (pv 13) pa_nil)) pa_nil)) (pg_name (i := 14) sc.nd rfl (.inl rfl)) (pss_one (ps_if (pt_cmpR op_ne (pe_op op_sub (pe_ixOwn Fitem (hr.mono (by decide)) pass0 (pv 3) (pe_op op_add (pv 14) pe_int)) (pe_ixOwn Fitem (hr.mono (by decide)) pass0 (pv 3) (pv 14))) (pe_ix ix_tup (pv 13) (pv 14) (fun _ _ => rfl)) (nomark _)) (pss_one (ps_ret pe_bl)) pss_nil)))))))))))))))))))))
      (pss_one (ps_ret pe_bl))))
end

section
theorem kit_self {K : PySem.W.Frag} {v : Value} : PySem.W.kitOne K v v = some true := by unfold PySem.W.kitOne; rw [if_pos (beq_self_eq_true _)]
theorem all_mk {l : PySem.W.OpenLaw} {w : World} {K : PySem.W.Frag} {h : Heap} {mg : Str → Option Value} {fa C : Addr} (X : K.In h) (G : h.Ns mainGlobals mg) (hfa : mg "law" = some (.ref fa))
    {f0 : Addr} {od0 an0 : Option Addr} {sl0 : Array (Option Value)} {oc0 kV0 dc0 pm0 cd0 ct0 : Value}
    {f1 : Addr} {od1 an1 : Option Addr} {sl1 : Array (Option Value)} {oc1 kV1 dc1 pm1 cd1 ct1 : Value}
    {f2 : Addr} {od2 an2 : Option Addr} {sl2 : Array (Option Value)} {oc2 kV2 dc2 pm2 cd2 ct2 : Value}
    {f3 : Addr} {od3 an3 : Option Addr} {sl3 : Array (Option Value)} {oc3 kV3 dc3 pm3 cd3 ct3 : Value}
    {f4 : Addr} {od4 an4 : Option Addr} {sl4 : Array (Option Value)} {oc4 kV4 dc4 pm4 cd4 ct4 : Value}
    {f5 : Addr} {od5 an5 : Option Addr} {sl5 : Array (Option Value)} {oc5 kV5 dc5 pm5 cd5 ct5 : Value}
    {f6 : Addr} {od6 an6 : Option Addr} {sl6 : Array (Option Value)} {oc6 kV6 dc6 pm6 cd6 ct6 : Value}
    {f7 : Addr} {od7 an7 : Option Addr} {sl7 : Array (Option Value)} {oc7 kV7 dc7 pm7 cd7 ct7 : Value}
    {p7 : Addr} {rs7 : List Value}
    {f8 : Addr} {od8 an8 : Option Addr} {sl8 : Array (Option Value)} {oc8 kV8 dc8 pm8 cd8 ct8 : Value}
    {p8 : Addr} {rs8 : List Value}
    {f9 : Addr} {od9 an9 : Option Addr} {sl9 : Array (Option Value)} {oc9 kV9 dc9 pm9 cd9 ct9 : Value}
    {p9 : Addr} {rs9 : List Value}
    {f10 : Addr} {od10 an10 : Option Addr} {sl10 : Array (Option Value)} {oc10 kV10 dc10 pm10 cd10 ct10 : Value}
    {f11 : Addr} {od11 an11 : Option Addr} {sl11 : Array (Option Value)} {oc11 kV11 dc11 pm11 cd11 ct11 : Value}
    {f12 : Addr} {od12 an12 : Option Addr} {sl12 : Array (Option Value)} {oc12 kV12 dc12 pm12 cd12 ct12 : Value}
    {f13 : Addr} {od13 an13 : Option Addr} {sl13 : Array (Option Value)} {oc13 kV13 dc13 pm13 cd13 ct13 : Value}
    {f14 : Addr} {od14 an14 : Option Addr} {sl14 : Array (Option Value)} {oc14 kV14 dc14 pm14 cd14 ct14 : Value}
    {f15 : Addr} {od15 an15 : Option Addr} {sl15 : Array (Option Value)} {oc15 kV15 dc15 pm15 cd15 ct15 : Value}
    {f16 : Addr} {od16 an16 : Option Addr} {sl16 : Array (Option Value)} {oc16 kV16 dc16 pm16 cd16 ct16 : Value}
    {p16 : Addr} {rs16 : List Value}
    {f17 : Addr} {od17 an17 : Option Addr} {sl17 : Array (Option Value)} {oc17 kV17 dc17 pm17 cd17 ct17 : Value}
    {f18 : Addr} {od18 an18 : Option Addr} {sl18 : Array (Option Value)} {oc18 kV18 dc18 pm18 cd18 ct18 : Value}
    {f19 : Addr} {od19 an19 : Option Addr} {sl19 : Array (Option Value)} {oc19 kV19 dc19 pm19 cd19 ct19 : Value}
    {f20 : Addr} {od20 an20 : Option Addr} {sl20 : Array (Option Value)} {oc20 kV20 dc20 pm20 cd20 ct20 : Value}
    {f21 : Addr} {od21 an21 : Option Addr} {sl21 : Array (Option Value)} {oc21 kV21 dc21 pm21 cd21 ct21 : Value}
    {f22 : Addr} {od22 an22 : Option Addr} {sl22 : Array (Option Value)} {oc22 kV22 dc22 pm22 cd22 ct22 : Value}
    {f23 : Addr} {od23 an23 : Option Addr} {sl23 : Array (Option Value)} {oc23 kV23 dc23 pm23 cd23 ct23 : Value}
    {tk_MAX_TICK : Tok}
    {tk_MAX_LENGTH : Tok}
    {tk_MAX_BEGIN : Tok}
    {tk_DIGITS : Tok}
    {tk_MAX_DIGITS : Tok}
    {tk_NEVER : Tok}
    {tk_BAR : Tok}
    (aC : PySem.W.nsIn K mainGlobals "Row" = some (some (.ref C)))
    (a0 : PySem.W.nsIn K mainGlobals "is_int_in" = some (some (.ref f0)))
    (l0 : K.lookup f0 = some ⟨oc0, od0, .func (PySem.W.fnOf "is_int_in" "is_int_in" (defArgs (top 16)) (defBody (top 16)) (defScope (top 16)) .none kV0 dc0 pm0 an0 cd0 ct0), sl0⟩)
    (c0 : PySem.W.codeIn K cd0 "is_int_in" = true)
    (k0 : PySem.W.keepIn K (.ref f0) = true)
    (a1 : PySem.W.findIn K (.ref C) "__init__" = some (some (.ref f1)))
    (i1 : PySem.W.isFn K (.ref f1) = true)
    (n1 : PySem.W.fnIn K f1 = true)
    (l1 : K.lookup f1 = some ⟨oc1, od1, .func (PySem.W.fnOf "__init__" "Row.__init__" (defArgs (inClass (top 18) 3)) (defBody (inClass (top 18) 3)) (defScope (inClass (top 18) 3)) .none kV1 dc1 pm1 an1 cd1 ct1), sl1⟩)
    (c1 : PySem.W.codeIn K cd1 "Row.__init__" = true)
    (k1 : PySem.W.keepIn K (.ref f1) = true)
    (a2 : PySem.W.findIn K (.ref C) "holds" = some (some (.ref f2)))
    (i2 : PySem.W.isFn K (.ref f2) = true)
    (n2 : PySem.W.fnIn K f2 = true)
    (l2 : K.lookup f2 = some ⟨oc2, od2, .func (PySem.W.fnOf "holds" "Row.holds" (defArgs (inClass (top 18) 11)) (defBody (inClass (top 18) 11)) (defScope (inClass (top 18) 11)) .none kV2 dc2 pm2 an2 cd2 ct2), sl2⟩)
    (c2 : PySem.W.codeIn K cd2 "Row.holds" = true)
    (k2 : PySem.W.keepIn K (.ref f2) = true)
    (a3 : PySem.W.findIn K (.ref C) "count" = some (some (.ref f3)))
    (i3 : PySem.W.isFn K (.ref f3) = true)
    (n3 : PySem.W.fnIn K f3 = true)
    (l3 : K.lookup f3 = some ⟨oc3, od3, .func (PySem.W.fnOf "count" "Row.count" (defArgs (inClass (top 18) 12)) (defBody (inClass (top 18) 12)) (defScope (inClass (top 18) 12)) .none kV3 dc3 pm3 an3 cd3 ct3), sl3⟩)
    (c3 : PySem.W.codeIn K cd3 "Row.count" = true)
    (k3 : PySem.W.keepIn K (.ref f3) = true)
    (a4 : PySem.W.findIn K (.ref C) "__call__" = some (some (.ref f4)))
    (i4 : PySem.W.isFn K (.ref f4) = true)
    (n4 : PySem.W.fnIn K f4 = true)
    (l4 : K.lookup f4 = some ⟨oc4, od4, .func (PySem.W.fnOf "__call__" "Row.__call__" (defArgs (inClass (top 18) 14)) (defBody (inClass (top 18) 14)) (defScope (inClass (top 18) 14)) .none kV4 dc4 pm4 an4 cd4 ct4), sl4⟩)
    (c4 : PySem.W.codeIn K cd4 "Row.__call__" = true)
    (k4 : PySem.W.keepIn K (.ref f4) = true)
    (a5 : PySem.W.findIn K (.ref C) "__contains__" = some (some (.ref f5)))
    (i5 : PySem.W.isFn K (.ref f5) = true)
    (n5 : PySem.W.fnIn K f5 = true)
    (l5 : K.lookup f5 = some ⟨oc5, od5, .func (PySem.W.fnOf "__contains__" "Row.__contains__" (defArgs (inClass (top 18) 16)) (defBody (inClass (top 18) 16)) (defScope (inClass (top 18) 16)) .none kV5 dc5 pm5 an5 cd5 ct5), sl5⟩)
    (c5 : PySem.W.codeIn K cd5 "Row.__contains__" = true)
    (k5 : PySem.W.keepIn K (.ref f5) = true)
    (a6 : PySem.W.findIn K (.ref C) "__getitem__" = some (some (.ref f6)))
    (i6 : PySem.W.isFn K (.ref f6) = true)
    (n6 : PySem.W.fnIn K f6 = true)
    (l6 : K.lookup f6 = some ⟨oc6, od6, .func (PySem.W.fnOf "__getitem__" "Row.__getitem__" (defArgs (inClass (top 18) 18)) (defBody (inClass (top 18) 18)) (defScope (inClass (top 18) 18)) .none kV6 dc6 pm6 an6 cd6 ct6), sl6⟩)
    (c6 : PySem.W.codeIn K cd6 "Row.__getitem__" = true)
    (k6 : PySem.W.keepIn K (.ref f6) = true)
    (a7 : PySem.W.findIn K (.ref C) "repetition" = some (some (.ref p7)))
    (b7_0 : PySem.W.specialIn K (.ref p7) "__get__" = some (some (.builtin "property.__get__")))
    (b7_1 : PySem.W.takesIn K (.ref p7) = some true)
    (b7_2 : PySem.W.recIn K p7 "property" = some (.ref f7 :: rs7))
    (l7 : K.lookup f7 = some ⟨oc7, od7, .func (PySem.W.fnOf "repetition" "Row.repetition" (defArgs (inClass (top 18) 7)) (defBody (inClass (top 18) 7)) (defScope (inClass (top 18) 7)) .none kV7 dc7 pm7 an7 cd7 ct7), sl7⟩)
    (c7 : PySem.W.codeIn K cd7 "Row.repetition" = true)
    (k7 : PySem.W.keepIn K (.ref f7) = true)
    (a8 : PySem.W.findIn K (.ref C) "laps" = some (some (.ref p8)))
    (b8_0 : PySem.W.specialIn K (.ref p8) "__get__" = some (some (.builtin "property.__get__")))
    (b8_1 : PySem.W.takesIn K (.ref p8) = some true)
    (b8_2 : PySem.W.recIn K p8 "property" = some (.ref f8 :: rs8))
    (l8 : K.lookup f8 = some ⟨oc8, od8, .func (PySem.W.fnOf "laps" "Row.laps" (defArgs (inClass (top 18) 8)) (defBody (inClass (top 18) 8)) (defScope (inClass (top 18) 8)) .none kV8 dc8 pm8 an8 cd8 ct8), sl8⟩)
    (c8 : PySem.W.codeIn K cd8 "Row.laps" = true)
    (k8 : PySem.W.keepIn K (.ref f8) = true)
    (a9 : PySem.W.findIn K (.ref C) "first_laps" = some (some (.ref p9)))
    (b9_0 : PySem.W.specialIn K (.ref p9) "__get__" = some (some (.builtin "property.__get__")))
    (b9_1 : PySem.W.takesIn K (.ref p9) = some true)
    (b9_2 : PySem.W.recIn K p9 "property" = some (.ref f9 :: rs9))
    (l9 : K.lookup f9 = some ⟨oc9, od9, .func (PySem.W.fnOf "first_laps" "Row.first_laps" (defArgs (inClass (top 18) 9)) (defBody (inClass (top 18) 9)) (defScope (inClass (top 18) 9)) .none kV9 dc9 pm9 an9 cd9 ct9), sl9⟩)
    (c9 : PySem.W.codeIn K cd9 "Row.first_laps" = true)
    (k9 : PySem.W.keepIn K (.ref f9) = true)
    (a10 : PySem.W.nsIn K mainGlobals "read_number" = some (some (.ref f10)))
    (l10 : K.lookup f10 = some ⟨oc10, od10, .func (PySem.W.fnOf "read_number" "read_number" (defArgs (top 19)) (defBody (top 19)) (defScope (top 19)) .none kV10 dc10 pm10 an10 cd10 ct10), sl10⟩)
    (c10 : PySem.W.codeIn K cd10 "read_number" = true)
    (k10 : PySem.W.keepIn K (.ref f10) = true)
    (a11 : PySem.W.nsIn K mainGlobals "ticks_of" = some (some (.ref f11)))
    (l11 : K.lookup f11 = some ⟨oc11, od11, .func (PySem.W.fnOf "ticks_of" "ticks_of" (defArgs (top 20)) (defBody (top 20)) (defScope (top 20)) .none kV11 dc11 pm11 an11 cd11 ct11), sl11⟩)
    (c11 : PySem.W.codeIn K cd11 "ticks_of" = true)
    (k11 : PySem.W.keepIn K (.ref f11) = true)
    (a12 : PySem.W.nsIn K mainGlobals "row_of_ticks" = some (some (.ref f12)))
    (l12 : K.lookup f12 = some ⟨oc12, od12, .func (PySem.W.fnOf "row_of_ticks" "row_of_ticks" (defArgs (top 21)) (defBody (top 21)) (defScope (top 21)) .none kV12 dc12 pm12 an12 cd12 ct12), sl12⟩)
    (c12 : PySem.W.codeIn K cd12 "row_of_ticks" = true)
    (k12 : PySem.W.keepIn K (.ref f12) = true)
    (a13 : PySem.W.nsIn K mainGlobals "row_of_laps" = some (some (.ref f13)))
    (l13 : K.lookup f13 = some ⟨oc13, od13, .func (PySem.W.fnOf "row_of_laps" "row_of_laps" (defArgs (top 22)) (defBody (top 22)) (defScope (top 22)) .none kV13 dc13 pm13 an13 cd13 ct13), sl13⟩)
    (c13 : PySem.W.codeIn K cd13 "row_of_laps" = true)
    (k13 : PySem.W.keepIn K (.ref f13) = true)
    (a14 : PySem.W.nsIn K mainGlobals "shortest" = some (some (.ref f14)))
    (l14 : K.lookup f14 = some ⟨oc14, od14, .func (PySem.W.fnOf "shortest" "shortest" (defArgs (top 23)) (defBody (top 23)) (defScope (top 23)) .none kV14 dc14 pm14 an14 cd14 ct14), sl14⟩)
    (c14 : PySem.W.codeIn K cd14 "shortest" = true)
    (k14 : PySem.W.keepIn K (.ref f14) = true)
    (a15 : PySem.W.nsIn K mainGlobals "normal" = some (some (.ref f15)))
    (l15 : K.lookup f15 = some ⟨oc15, od15, .func (PySem.W.fnOf "normal" "normal" (defArgs (top 24)) (defBody (top 24)) (defScope (top 24)) .none kV15 dc15 pm15 an15 cd15 ct15), sl15⟩)
    (c15 : PySem.W.codeIn K cd15 "normal" = true)
    (k15 : PySem.W.keepIn K (.ref f15) = true)
    (a16 : PySem.W.findCls K (.ref C) (.type "type") "parse" = some (.get (.builtin "classmethod.__get__") (.ref p16) .none (.ref C)))
    (i16 : PySem.W.recIn K p16 "classmethod" = some (.ref f16 :: rs16))
    (n16 : PySem.W.fnIn K f16 = true)
    (l16 : K.lookup f16 = some ⟨oc16, od16, .func (PySem.W.fnOf "parse" "Row.parse" (defArgs (inClass (top 18) 5)) (defBody (inClass (top 18) 5)) (defScope (inClass (top 18) 5)) .none kV16 dc16 pm16 an16 cd16 ct16), sl16⟩)
    (c16 : PySem.W.codeIn K cd16 "Row.parse" = true)
    (k16 : PySem.W.keepIn K (.ref f16) = true)
    (a17 : PySem.W.nsIn K mainGlobals "_law_random" = some (some (.ref f17)))
    (l17 : K.lookup f17 = some ⟨oc17, od17, .func (PySem.W.fnOf "_law_random" "_law_random" (defArgs (top 27)) (defBody (top 27)) (defScope (top 27)) .none kV17 dc17 pm17 an17 cd17 ct17), sl17⟩)
    (c17 : PySem.W.codeIn K cd17 "_law_random" = true)
    (k17 : PySem.W.keepIn K (.ref f17) = true)
    (a18 : PySem.W.nsIn K mainGlobals "_law_below" = some (some (.ref f18)))
    (l18 : K.lookup f18 = some ⟨oc18, od18, .func (PySem.W.fnOf "_law_below" "_law_below" (defArgs (top 29)) (defBody (top 29)) (defScope (top 29)) .none kV18 dc18 pm18 an18 cd18 ct18), sl18⟩)
    (c18 : PySem.W.codeIn K cd18 "_law_below" = true)
    (k18 : PySem.W.keepIn K (.ref f18) = true)
    (a19 : PySem.W.nsIn K mainGlobals "_law_laps" = some (some (.ref f19)))
    (l19 : K.lookup f19 = some ⟨oc19, od19, .func (PySem.W.fnOf "_law_laps" "_law_laps" (defArgs (top 30)) (defBody (top 30)) (defScope (top 30)) .none kV19 dc19 pm19 an19 cd19 ct19), sl19⟩)
    (c19 : PySem.W.codeIn K cd19 "_law_laps" = true)
    (k19 : PySem.W.keepIn K (.ref f19) = true)
    (a20 : PySem.W.nsIn K mainGlobals "_law_plan" = some (some (.ref f20)))
    (l20 : K.lookup f20 = some ⟨oc20, od20, .func (PySem.W.fnOf "_law_plan" "_law_plan" (defArgs (top 31)) (defBody (top 31)) (defScope (top 31)) .none kV20 dc20 pm20 an20 cd20 ct20), sl20⟩)
    (c20 : PySem.W.codeIn K cd20 "_law_plan" = true)
    (k20 : PySem.W.keepIn K (.ref f20) = true)
    (a21 : PySem.W.nsIn K mainGlobals "_law_row" = some (some (.ref f21)))
    (l21 : K.lookup f21 = some ⟨oc21, od21, .func (PySem.W.fnOf "_law_row" "_law_row" (defArgs (top 28)) (defBody (top 28)) (defScope (top 28)) .none kV21 dc21 pm21 an21 cd21 ct21), sl21⟩)
    (c21 : PySem.W.codeIn K cd21 "_law_row" = true)
    (k21 : PySem.W.keepIn K (.ref f21) = true)
    (a22 : PySem.W.nsIn K mainGlobals "_law_some_tick" = some (some (.ref f22)))
    (l22 : K.lookup f22 = some ⟨oc22, od22, .func (PySem.W.fnOf "_law_some_tick" "_law_some_tick" (defArgs (top 32)) (defBody (top 32)) (defScope (top 32)) .none kV22 dc22 pm22 an22 cd22 ct22), sl22⟩)
    (c22 : PySem.W.codeIn K cd22 "_law_some_tick" = true)
    (k22 : PySem.W.keepIn K (.ref f22) = true)
    (a23 : PySem.W.nsIn K mainGlobals "law" = some (some (.ref f23)))
    (l23 : K.lookup f23 = some ⟨oc23, od23, .func (PySem.W.fnOf "law" "law" (defArgs (top 33)) (defBody (top 33)) (defScope (top 33)) .none kV23 dc23 pm23 an23 cd23 ct23), sl23⟩)
    (c23 : PySem.W.codeIn K cd23 "law" = true)
    (k23 : PySem.W.keepIn K (.ref f23) = true)
    (pg : PySem.W.plainGet K C Str.empty = true)
    (hdd : PySem.W.hasDictIn K C = true)
    (po : PySem.W.plainOver K C = true)
    (sa : PySem.W.findIn K (.ref C) "__setattr__" = some (some (.builtin "object.__setattr__")))
    (mk : PySem.W.makesIn K C = true)
    (kc : PySem.W.keepIn K (.ref C) = true)
    (sf : PySem.W.selfFirst K C = true)
    (nsq : PySem.W.noSeq K C = true)
    (ne1 : PySem.W.findIn K (.ref C) "__ne__" = some (some (.builtin "object.__ne__")))
    (ne2 : PySem.W.subIn K (.ref C) (.type "object") = some true)
    (x1 : PySem.W.findIn K (.ref C) "__class__" = some (some (.builtin "object.__class__")))
    (x2 : PySem.W.specialIn K (.builtin "object.__class__") "__get__" = some (some (.builtin "getset_descriptor.__get__")))
    (x3 : PySem.W.takesIn K (.builtin "object.__class__") = some true)
    (x4 : PySem.W.mroIn K C (.type "object") = some true)
    (cr1 : PySem.W.readsIn K C (.type "type") = true)
    (cr2 : PySem.W.specialIn K (.ref C) "__getattribute__" = some (some (.builtin "type.__getattribute__")))
    (na_early : PySem.W.findIn K (.ref C) "early" = some none)
    (na_begin : PySem.W.findIn K (.ref C) "begin" = some none)
    (na_length : PySem.W.findIn K (.ref C) "length" = some none)
    (na_offsets : PySem.W.findIn K (.ref C) "offsets" = some none)
    (na_marks : PySem.W.findIn K (.ref C) "marks" = some none)
    (na_parts : PySem.W.findIn K (.ref C) "parts" = some none)
    (z_range : PySem.W.nsIn K mainGlobals "range" = some none)
    (z_len : PySem.W.nsIn K mainGlobals "len" = some none)
    (z_isinstance : PySem.W.nsIn K mainGlobals "isinstance" = some none)
    (z_bool : PySem.W.nsIn K mainGlobals "bool" = some none)
    (z_int : PySem.W.nsIn K mainGlobals "int" = some none)
    (z_list : PySem.W.nsIn K mainGlobals "list" = some none)
    (z_tuple : PySem.W.nsIn K mainGlobals "tuple" = some none)
    (z_str : PySem.W.nsIn K mainGlobals "str" = some none)
    (z_sum : PySem.W.nsIn K mainGlobals "sum" = some none)
    (z_all : PySem.W.nsIn K mainGlobals "all" = some none)
    (z_any : PySem.W.nsIn K mainGlobals "any" = some none)
    (z_sorted : PySem.W.nsIn K mainGlobals "sorted" = some none)
    (z_dict : PySem.W.nsIn K mainGlobals "dict" = some none)
    (z_max : PySem.W.nsIn K mainGlobals "max" = some none)
    (z_min : PySem.W.nsIn K mainGlobals "min" = some none)
    (z_divmod : PySem.W.nsIn K mainGlobals "divmod" = some none)
    (z_abs : PySem.W.nsIn K mainGlobals "abs" = some none)
    (z_enumerate : PySem.W.nsIn K mainGlobals "enumerate" = some none)
    (v_MAX_TICK : PySem.W.nsIn K mainGlobals "MAX_TICK" = some (some (.int 1000000000000000000 tk_MAX_TICK)))
    (v_MAX_LENGTH : PySem.W.nsIn K mainGlobals "MAX_LENGTH" = some (some (.int 20000 tk_MAX_LENGTH)))
    (v_MAX_BEGIN : PySem.W.nsIn K mainGlobals "MAX_BEGIN" = some (some (.int 100000 tk_MAX_BEGIN)))
    (v_DIGITS : PySem.W.nsIn K mainGlobals "DIGITS" = some (some (.str "0123456789" tk_DIGITS)))
    (v_MAX_DIGITS : PySem.W.nsIn K mainGlobals "MAX_DIGITS" = some (some (.int 6 tk_MAX_DIGITS)))
    (v_NEVER : PySem.W.nsIn K mainGlobals "NEVER" = some (some (.str "never" tk_NEVER)))
    (v_BAR : PySem.W.nsIn K mainGlobals "BAR" = some (some (.str "|" tk_BAR))) :
    ∃ fd : FuncData, (∀ (s : Shared) (v : Value), BindsTo s fd ⟨[v], []⟩ [("_law_script", v)]) ∧ ∀ base : Heap, K.In base → base.Ns mainGlobals mg → FnOk l.prog w K mg base CX0 9 fa fd ["_law_script"] (spLaw K) := by
  have e := hfa.symm.trans (PySem.W.mg_of X G a23)
  cases e
  have cls : Cls K C := ⟨pg, hdd, po, sa⟩
  have T : TyF K C := ⟨kit_self, fun H a dx fs hi => .base (.ins hi cls x1 x2 x3 x4), cls, na_early, na_begin, na_length, na_offsets, na_marks, na_parts, L2.kit_ty (by decide +kernel), L2.kit_ty (by decide +kernel), L2.kit_ty (by decide +kernel), L2.kit_ty (by decide +kernel), L2.kit_ty (by decide +kernel), L2.kit_ty (by decide +kernel)⟩
  have R : RowC K mg C := ⟨⟨cls, sf, nsq⟩, ⟨ne1, ne2⟩, PySem.W.mg_of X G aC, na_early, na_begin, na_length, na_offsets, na_marks, na_parts, ⟨.own C, kit_self⟩⟩
  have c : Cst mg := ⟨⟨_, PySem.W.mg_of X G v_MAX_TICK⟩, ⟨_, PySem.W.mg_of X G v_MAX_LENGTH⟩, ⟨_, PySem.W.mg_of X G v_MAX_BEGIN⟩, ⟨_, PySem.W.mg_of X G v_DIGITS⟩, ⟨_, PySem.W.mg_of X G v_MAX_DIGITS⟩, ⟨_, PySem.W.mg_of X G v_NEVER⟩, ⟨_, PySem.W.mg_of X G v_BAR⟩⟩
  have b : Blt mg := ⟨PySem.W.mg_none_of X G z_range, PySem.W.mg_none_of X G z_len, PySem.W.mg_none_of X G z_isinstance, PySem.W.mg_none_of X G z_bool, PySem.W.mg_none_of X G z_int, PySem.W.mg_none_of X G z_list, PySem.W.mg_none_of X G z_tuple, PySem.W.mg_none_of X G z_str, PySem.W.mg_none_of X G z_sum, PySem.W.mg_none_of X G z_all, PySem.W.mg_none_of X G z_any, PySem.W.mg_none_of X G z_sorted, PySem.W.mg_none_of X G z_dict, PySem.W.mg_none_of X G z_max, PySem.W.mg_none_of X G z_min, PySem.W.mg_none_of X G z_divmod, PySem.W.mg_none_of X G z_abs, PySem.W.mg_none_of X G z_enumerate⟩
  have F0 := fun_mk (st := (top 16)) l0 c0 k0
  have b0 := F0.binds (ps := ["value", "low", "high"]) fun _ _ _ _ _ _ us hl => match us, hl with | [_, _, _], _ => rfl
  have F1 := fun_mk (st := (inClass (top 18) 3)) l1 c1 k1
  have b1 := F1.binds (ps := ["self", "early", "begin", "length", "offsets"]) fun _ _ _ _ _ _ us hl => match us, hl with | [_, _, _, _, _], _ => rfl
  have F2 := fun_mk (st := (inClass (top 18) 11)) l2 c2 k2
  have b2 := F2.binds (ps := ["self", "tick"]) fun _ _ _ _ _ _ us hl => match us, hl with | [_, _], _ => rfl
  have F3 := fun_mk (st := (inClass (top 18) 12)) l3 c3 k3
  have b3 := F3.binds (ps := ["self", "tick"]) fun _ _ _ _ _ _ us hl => match us, hl with | [_, _], _ => rfl
  have F4 := fun_mk (st := (inClass (top 18) 14)) l4 c4 k4
  have b4 := F4.binds (ps := ["self", "tick"]) fun _ _ _ _ _ _ us hl => match us, hl with | [_, _], _ => rfl
  have F5 := fun_mk (st := (inClass (top 18) 16)) l5 c5 k5
  have b5 := F5.binds (ps := ["self", "tick"]) fun _ _ _ _ _ _ us hl => match us, hl with | [_, _], _ => rfl
  have F6 := fun_mk (st := (inClass (top 18) 18)) l6 c6 k6
  have b6 := F6.binds (ps := ["self", "number"]) fun _ _ _ _ _ _ us hl => match us, hl with | [_, _], _ => rfl
  have F7 := fun_mk (st := (inClass (top 18) 7)) l7 c7 k7
  have b7 := F7.binds (ps := ["self"]) fun _ _ _ _ _ _ us hl => match us, hl with | [_], _ => rfl
  have F8 := fun_mk (st := (inClass (top 18) 8)) l8 c8 k8
  have b8 := F8.binds (ps := ["self"]) fun _ _ _ _ _ _ us hl => match us, hl with | [_], _ => rfl
  have F9 := fun_mk (st := (inClass (top 18) 9)) l9 c9 k9
  have b9 := F9.binds (ps := ["self"]) fun _ _ _ _ _ _ us hl => match us, hl with | [_], _ => rfl
  have F10 := fun_mk (st := (top 19)) l10 c10 k10
  have b10 := F10.binds (ps := ["word"]) fun _ _ _ _ _ _ us hl => match us, hl with | [_], _ => rfl
  have F11 := fun_mk (st := (top 20)) l11 c11 k11
  have b11 := F11.binds (ps := ["numbers"]) fun _ _ _ _ _ _ us hl => match us, hl with | [_], _ => rfl
  have F12 := fun_mk (st := (top 21)) l12 c12 k12
  have b12 := F12.binds (ps := ["ticks"]) fun _ _ _ _ _ _ us hl => match us, hl with | [_], _ => rfl
  have F13 := fun_mk (st := (top 22)) l13 c13 k13
  have b13 := F13.binds (ps := ["start", "first", "laps"]) fun _ _ _ _ _ _ us hl => match us, hl with | [_, _, _], _ => rfl
  have F14 := fun_mk (st := (top 23)) l14 c14 k14
  have b14 := F14.binds (ps := ["length", "offsets"]) fun _ _ _ _ _ _ us hl => match us, hl with | [_, _], _ => rfl
  have F15 := fun_mk (st := (top 24)) l15 c15 k15
  have b15 := F15.binds (ps := ["early", "begin", "length", "offsets"]) fun _ _ _ _ _ _ us hl => match us, hl with | [_, _, _, _], _ => rfl
  have F16 := fun_mk (st := (inClass (top 18) 5)) l16 c16 k16
  have b16 := F16.binds (ps := ["cls", "text"]) fun _ _ _ _ _ _ us hl => match us, hl with | [_, _], _ => rfl
  have F17 := fun_mk (st := (top 27)) l17 c17 k17
  have b17 := F17.binds (ps := ["_law_script", "_law_salt"]) fun _ _ _ _ _ _ us hl => match us, hl with | [_, _], _ => rfl
  have F18 := fun_mk (st := (top 29)) l18 c18 k18
  have b18 := F18.binds (ps := ["_law_d", "_law_limit"]) fun _ _ _ _ _ _ us hl => match us, hl with | [_, _], _ => rfl
  have F19 := fun_mk (st := (top 30)) l19 c19 k19
  have b19 := F19.binds (ps := ["_law_d", "_law_most"]) fun _ _ _ _ _ _ us hl => match us, hl with | [_, _], _ => rfl
  have F20 := fun_mk (st := (top 31)) l20 c20 k20
  have b20 := F20.binds (ps := ["_law_d", "_law_most"]) fun _ _ _ _ _ _ us hl => match us, hl with | [_, _], _ => rfl
  have F21 := fun_mk (st := (top 28)) l21 c21 k21
  have b21 := F21.binds (ps := ["_law_plan_here"]) fun _ _ _ _ _ _ us hl => match us, hl with | [_], _ => rfl
  have F22 := fun_mk (st := (top 32)) l22 c22 k22
  have b22 := F22.binds (ps := ["_law_d"]) fun _ _ _ _ _ _ us hl => match us, hl with | [_], _ => rfl
  have F23 := fun_mk (st := (top 33)) l23 c23 k23
  have b23 := F23.binds (ps := ["_law_script"]) fun _ _ _ _ _ _ us hl => match us, hl with | [_], _ => rfl
  have O0 : ∀ base : Heap, FnOk l.prog w K mg base CX0 1 f0 _ ["value", "low", "high"] (spIii) := fun base => okPis_int_in F0 T c b R 
  have D0 : ∀ base : Heap, DefN l.prog w K mg base CX0 1 "is_int_in" ["value", "low", "high"] (spIii) := fun base => ⟨f0, _, PySem.W.mg_of X G a0, k0, O0 base, b0⟩
  have O1 : ∀ base : Heap, FnOk l.prog w K mg base CX0 1 f1 _ ["self", "early", "begin", "length", "offsets"] (spInit K C) := fun base => okRinit F1 T c b R 
  have D1 : ∀ base : Heap, MkN l.prog w K mg base CX0 1 C (spInit K C) := fun base => ⟨f1, ⟨mk, a1, i1, kc⟩, by have z := (O1 base).raw b1 .nil; simpa only [List.append_nil] using z⟩
  have O2 : ∀ base : Heap, FnOk l.prog w K mg base CX0 1 f2 _ ["self", "tick"] (spHolds K C) := fun base => okRholds F2 T c b R 
  have D2 : ∀ base : Heap, MetN l.prog w K mg base CX0 1 C "holds" ["self", "tick"] (spHolds K C) := fun base => ⟨f2, _, a2, i2, n2, k2, O2 base, b2⟩
  have O3 : ∀ base : Heap, FnOk l.prog w K mg base CX0 1 f3 _ ["self", "tick"] (spCount K C) := fun base => okRcount F3 T c b R 
  have D3 : ∀ base : Heap, MetN l.prog w K mg base CX0 1 C "count" ["self", "tick"] (spCount K C) := fun base => ⟨f3, _, a3, i3, n3, k3, O3 base, b3⟩
  have O4 : ∀ base : Heap, FnOk l.prog w K mg base CX0 2 f4 _ ["self", "tick"] (spCall K C) := fun base => okRcall F4 T c b R (D0 base) (D3 base)
  have D4 : ∀ base : Heap, MetN l.prog w K mg base CX0 2 C "__call__" ["self", "tick"] (spCall K C) := fun base => ⟨f4, _, a4, i4, n4, k4, O4 base, b4⟩
  have O5 : ∀ base : Heap, FnOk l.prog w K mg base CX0 2 f5 _ ["self", "tick"] (spContains K C) := fun base => okRcontains F5 T c b R (D0 base) (D2 base)
  have D5 : ∀ base : Heap, MetN l.prog w K mg base CX0 2 C "__contains__" ["self", "tick"] (spContains K C) := fun base => ⟨f5, _, a5, i5, n5, k5, O5 base, b5⟩
  have O6 : ∀ base : Heap, FnOk l.prog w K mg base CX0 2 f6 _ ["self", "number"] (spItem K C) := fun base => okRitem F6 T c b R (D0 base)
  have D6 : ∀ base : Heap, MetN l.prog w K mg base CX0 2 C "__getitem__" ["self", "number"] (spItem K C) := fun base => ⟨f6, _, a6, i6, n6, k6, O6 base, b6⟩
  have O7 : ∀ base : Heap, FnOk l.prog w K mg base CX0 1 f7 _ ["self"] (spRep K C) := fun base => okRrepetition F7 T c b R 
  have D7 : ∀ base : Heap, PropN l.prog w K mg base CX0 1 C "repetition" (spRep K C) := fun base => ⟨p7, f7, _, ⟨a7, b7_0, b7_1, ⟨rs7, b7_2⟩⟩, O7 base, b7⟩
  have O8 : ∀ base : Heap, FnOk l.prog w K mg base CX0 1 f8 _ ["self"] (spLaps K C) := fun base => okRlaps F8 T c b R 
  have D8 : ∀ base : Heap, PropN l.prog w K mg base CX0 1 C "laps" (spLaps K C) := fun base => ⟨p8, f8, _, ⟨a8, b8_0, b8_1, ⟨rs8, b8_2⟩⟩, O8 base, b8⟩
  have O9 : ∀ base : Heap, FnOk l.prog w K mg base CX0 1 f9 _ ["self"] (spFlaps K C) := fun base => okRfirst_laps F9 T c b R 
  have D9 : ∀ base : Heap, PropN l.prog w K mg base CX0 1 C "first_laps" (spFlaps K C) := fun base => ⟨p9, f9, _, ⟨a9, b9_0, b9_1, ⟨rs9, b9_2⟩⟩, O9 base, b9⟩
  have O10 : ∀ base : Heap, FnOk l.prog w K mg base CX0 1 f10 _ ["word"] (spReadNumber) := fun base => okPread_number F10 T c b R 
  have D10 : ∀ base : Heap, DefN l.prog w K mg base CX0 1 "read_number" ["word"] (spReadNumber) := fun base => ⟨f10, _, PySem.W.mg_of X G a10, k10, O10 base, b10⟩
  have O11 : ∀ base : Heap, FnOk l.prog w K mg base CX0 1 f11 _ ["numbers"] (spTicksOf K) := fun base => okPticks_of F11 T c b R 
  have D11 : ∀ base : Heap, DefN l.prog w K mg base CX0 1 "ticks_of" ["numbers"] (spTicksOf K) := fun base => ⟨f11, _, PySem.W.mg_of X G a11, k11, O11 base, b11⟩
  have O14 : ∀ base : Heap, FnOk l.prog w K mg base CX0 1 f14 _ ["length", "offsets"] (spShortest K) := fun base => okPshortest F14 T c b R 
  have D14 : ∀ base : Heap, DefN l.prog w K mg base CX0 1 "shortest" ["length", "offsets"] (spShortest K) := fun base => ⟨f14, _, PySem.W.mg_of X G a14, k14, O14 base, b14⟩
  have O15 : ∀ base : Heap, FnOk l.prog w K mg base CX0 3 f15 _ ["early", "begin", "length", "offsets"] (spNormal K C) := fun base => okPnormal F15 T c b R (D1 base) (D14 base)
  have D15 : ∀ base : Heap, DefN l.prog w K mg base CX0 3 "normal" ["early", "begin", "length", "offsets"] (spNormal K C) := fun base => ⟨f15, _, PySem.W.mg_of X G a15, k15, O15 base, b15⟩
  have O12 : ∀ base : Heap, FnOk l.prog w K mg base CX0 5 f12 _ ["ticks"] (spRowOfTicks K C) := fun base => okProw_of_ticks F12 T c b R (D15 base)
  have D12 : ∀ base : Heap, DefN l.prog w K mg base CX0 5 "row_of_ticks" ["ticks"] (spRowOfTicks K C) := fun base => ⟨f12, _, PySem.W.mg_of X G a12, k12, O12 base, b12⟩
  have O13 : ∀ base : Heap, FnOk l.prog w K mg base CX0 5 f13 _ ["start", "first", "laps"] (spRowOfLaps K C) := fun base => okProw_of_laps F13 T c b R (D11 base) (D15 base)
  have D13 : ∀ base : Heap, DefN l.prog w K mg base CX0 5 "row_of_laps" ["start", "first", "laps"] (spRowOfLaps K C) := fun base => ⟨f13, _, PySem.W.mg_of X G a13, k13, O13 base, b13⟩
  have O16 : ∀ base : Heap, FnOk l.prog w K mg base CX0 6 f16 _ ["cls", "text"] (spParse K C) := fun base => okRparse F16 T c b R (D1 base) (D10 base) (D12 base) (D11 base) (D13 base)
  have D16 : ∀ base : Heap, CmN l.prog w K mg base CX0 6 C "parse" (spParse K C) := fun base => ⟨.type "type", p16, f16, ⟨cr1, cr2⟩, ⟨a16, ⟨rs16, i16⟩, n16⟩, by have z := (O16 base).raw b16 .nil; simpa only [List.append_nil] using z⟩
  have O17 : ∀ base : Heap, FnOk l.prog w K mg base CX0 1 f17 _ ["_law_script", "_law_salt"] (spRandom K) := fun base => okLrandom F17 T c b R 
  have D17 : ∀ base : Heap, DefN l.prog w K mg base CX0 1 "_law_random" ["_law_script", "_law_salt"] (spRandom K) := fun base => ⟨f17, _, PySem.W.mg_of X G a17, k17, O17 base, b17⟩
  have O18 : ∀ base : Heap, FnOk l.prog w K mg base CX0 1 f18 _ ["_law_d", "_law_limit"] (spBelow) := fun base => okLbelow F18 T c b R 
  have D18 : ∀ base : Heap, DefN l.prog w K mg base CX0 1 "_law_below" ["_law_d", "_law_limit"] (spBelow) := fun base => ⟨f18, _, PySem.W.mg_of X G a18, k18, O18 base, b18⟩
  have O19 : ∀ base : Heap, FnOk l.prog w K mg base CX0 2 f19 _ ["_law_d", "_law_most"] (spLawLaps) := fun base => okLlaps F19 T c b R (D18 base)
  have D19 : ∀ base : Heap, DefN l.prog w K mg base CX0 2 "_law_laps" ["_law_d", "_law_most"] (spLawLaps) := fun base => ⟨f19, _, PySem.W.mg_of X G a19, k19, O19 base, b19⟩
  have O20 : ∀ base : Heap, FnOk l.prog w K mg base CX0 3 f20 _ ["_law_d", "_law_most"] (spPlan) := fun base => okLplan F20 T c b R (D18 base) (D19 base)
  have D20 : ∀ base : Heap, DefN l.prog w K mg base CX0 3 "_law_plan" ["_law_d", "_law_most"] (spPlan) := fun base => ⟨f20, _, PySem.W.mg_of X G a20, k20, O20 base, b20⟩
  have O21 : ∀ base : Heap, FnOk l.prog w K mg base CX0 8 f21 _ ["_law_plan_here"] (spLawRow K C) := fun base => okLrow F21 T c b R (D16 base)
  have D21 : ∀ base : Heap, DefN l.prog w K mg base CX0 8 "_law_row" ["_law_plan_here"] (spLawRow K C) := fun base => ⟨f21, _, PySem.W.mg_of X G a21, k21, O21 base, b21⟩
  have O22 : ∀ base : Heap, FnOk l.prog w K mg base CX0 2 f22 _ ["_law_d"] (spSomeTick) := fun base => okLsome_tick F22 T c b R (D18 base)
  have D22 : ∀ base : Heap, DefN l.prog w K mg base CX0 2 "_law_some_tick" ["_law_d"] (spSomeTick) := fun base => ⟨f22, _, PySem.W.mg_of X G a22, k22, O22 base, b22⟩
  refine ⟨_, fun s v => .of_eq rfl, fun base _ _ => okPlaw F23 T c b R (D17 base) (D21 base) (D20 base) (D22 base) (D4 base) (D5 base) (D6 base) (D7 base) (D18 base) (D9 base) (D8 base)⟩
theorem walk {l : PySem.W.OpenLaw} {q : Program} {loose : List Str} {XP : (Str → Option Value) → Heap → Prop} {YP : World → Heap → Prop} {d : DefRec} {K : Params → PySem.W.Frag} (hn : l.most = some 63) (hdf : d.params.defaults = [])
    (hY : ∀ (w : World) (h : Heap), YP w h → (K w.params).In h)
    (F : ∀ (w : World) (mg : Str → Option Value) (fa : Addr) (h : Heap), (K w.params).In h → h.Ns mainGlobals mg → mg d.name = some (.ref fa) →
      ∃ fd : FuncData, (∀ (s : Shared) (u : Value), BindsTo s fd ⟨[u], []⟩ [("_law_script", u)]) ∧ ∀ base : Heap, (K w.params).In base → base.Ns mainGlobals mg → FnOk l.prog w (K w.params) mg base CX0 9 fa fd ["_law_script"] (spLaw (K w.params))) :
    PySem.W.WalkO q loose XP YP l.row.toRowW d [] (fun f vs => PySem.call f vs) :=
  L2.walk_of (n := 63) (k := 9) (x := "_law_script") (CX := fun _ => CX0) (sp := fun w => spLaw (K w.params)) hn (by decide) hdf ⟨rfl, by decide, by decide⟩ hY F (fun _ _ a ns hl _ hS => ⟨a, ns, rfl, hS, hl, fun _ => rfl⟩) fun _ _ _ _ _ z => z
end
end TkL
open PySem PySem.W PyProof.Rows in
set_option maxRecDepth 100000 in
set_option maxHeartbeats 0 in
theorem PySem.Challenge.cw_tracktimes_k33_whole_counts_and_numbers_holds : PySem.Challenge.rw_tracktimes_k33_whole_counts_and_numbers.Holds := by
  w_on; o_law; k_head; (case hw => w_witness2)
  k_fill
  refine TkL.walk (l := PySem.Challenge.rw_tracktimes_k33_whole_counts_and_numbers) rfl rfl (fun w h Y => PySem.W.kIn_of Y) ?F
  case F =>
    intro w mg fa h KX G hmg
    refine' TkL.all_mk KX G hmg ?aC ?a0 ?l0 ?c0 ?k0 ?a1 ?i1 ?n1 ?l1 ?c1 ?k1 ?a2 ?i2 ?n2 ?l2 ?c2 ?k2 ?a3 ?i3 ?n3 ?l3 ?c3 ?k3 ?a4 ?i4 ?n4 ?l4 ?c4 ?k4 ?a5 ?i5 ?n5 ?l5 ?c5 ?k5 ?a6 ?i6 ?n6 ?l6 ?c6 ?k6 ?a7 ?b7_0 ?b7_1 ?b7_2 ?l7 ?c7 ?k7 ?a8 ?b8_0 ?b8_1 ?b8_2 ?l8 ?c8 ?k8 ?a9 ?b9_0 ?b9_1 ?b9_2 ?l9 ?c9 ?k9 ?a10 ?l10 ?c10 ?k10 ?a11 ?l11 ?c11 ?k11 ?a12 ?l12 ?c12 ?k12 ?a13 ?l13 ?c13 ?k13 ?a14 ?l14 ?c14 ?k14 ?a15 ?l15 ?c15 ?k15 ?a16 ?i16 ?n16 ?l16 ?c16 ?k16 ?a17 ?l17 ?c17 ?k17 ?a18 ?l18 ?c18 ?k18 ?a19 ?l19 ?c19 ?k19 ?a20 ?l20 ?c20 ?k20 ?a21 ?l21 ?c21 ?k21 ?a22 ?l22 ?c22 ?k22 ?a23 ?l23 ?c23 ?k23 ?pg ?hdd ?po ?sa ?mk ?kc ?sf ?nsq ?ne1 ?ne2 ?x1 ?x2 ?x3 ?x4 ?cr1 ?cr2 ?na_early ?na_begin ?na_length ?na_offsets ?na_marks ?na_parts ?z_range ?z_len ?z_isinstance ?z_bool ?z_int ?z_list ?z_tuple ?z_str ?z_sum ?z_all ?z_any ?z_sorted ?z_dict ?z_max ?z_min ?z_divmod ?z_abs ?z_enumerate ?v_MAX_TICK ?v_MAX_LENGTH ?v_MAX_BEGIN ?v_DIGITS ?v_MAX_DIGITS ?v_NEVER ?v_BAR
    (case aC => k_is)
    (case a0 => k_is)
    (case l0 => k_is)
    (case c0 => k_is)
    (case k0 => k_is)
    (case a1 => k_is)
    (case i1 => k_is)
    (case n1 => k_is)
    (case l1 => k_is)
    (case c1 => k_is)
    (case k1 => k_is)
    (case a2 => k_is)
    (case i2 => k_is)
    (case n2 => k_is)
    (case l2 => k_is)
    (case c2 => k_is)
    (case k2 => k_is)
    (case a3 => k_is)
    (case i3 => k_is)
    (case n3 => k_is)
    (case l3 => k_is)
    (case c3 => k_is)
    (case k3 => k_is)
    (case a4 => k_is)
    (case i4 => k_is)
    (case n4 => k_is)
    (case l4 => k_is)
    (case c4 => k_is)
    (case k4 => k_is)
    (case a5 => k_is)
    (case i5 => k_is)
    (case n5 => k_is)
    (case l5 => k_is)
    (case c5 => k_is)
    (case k5 => k_is)
    (case a6 => k_is)
    (case i6 => k_is)
    (case n6 => k_is)
    (case l6 => k_is)
    (case c6 => k_is)
    (case k6 => k_is)
    (case a7 => k_is)
    (case b7_0 => k_is)
    (case b7_1 => k_is)
    (case b7_2 => k_is)
    (case l7 => k_is)
    (case c7 => k_is)
    (case k7 => k_is)
    (case a8 => k_is)
    (case b8_0 => k_is)
    (case b8_1 => k_is)
    (case b8_2 => k_is)
    (case l8 => k_is)
    (case c8 => k_is)
    (case k8 => k_is)
    (case a9 => k_is)
    (case b9_0 => k_is)
    (case b9_1 => k_is)
    (case b9_2 => k_is)
    (case l9 => k_is)
    (case c9 => k_is)
    (case k9 => k_is)
    (case a10 => k_is)
    (case l10 => k_is)
    (case c10 => k_is)
    (case k10 => k_is)
    (case a11 => k_is)
    (case l11 => k_is)
    (case c11 => k_is)
    (case k11 => k_is)
    (case a12 => k_is)
    (case l12 => k_is)
    (case c12 => k_is)
    (case k12 => k_is)
    (case a13 => k_is)
    (case l13 => k_is)
    (case c13 => k_is)
    (case k13 => k_is)
    (case a14 => k_is)
    (case l14 => k_is)
    (case c14 => k_is)
    (case k14 => k_is)
    (case a15 => k_is)
    (case l15 => k_is)
    (case c15 => k_is)
    (case k15 => k_is)
    (case a16 => k_is)
    (case i16 => k_is)
    (case n16 => k_is)
    (case l16 => k_is)
    (case c16 => k_is)
    (case k16 => k_is)
    (case a17 => k_is)
    (case l17 => k_is)
    (case c17 => k_is)
    (case k17 => k_is)
    (case a18 => k_is)
    (case l18 => k_is)
    (case c18 => k_is)
    (case k18 => k_is)
    (case a19 => k_is)
    (case l19 => k_is)
    (case c19 => k_is)
    (case k19 => k_is)
    (case a20 => k_is)
    (case l20 => k_is)
    (case c20 => k_is)
    (case k20 => k_is)
    (case a21 => k_is)
    (case l21 => k_is)
    (case c21 => k_is)
    (case k21 => k_is)
    (case a22 => k_is)
    (case l22 => k_is)
    (case c22 => k_is)
    (case k22 => k_is)
    (case a23 => k_is)
    (case l23 => k_is)
    (case c23 => k_is)
    (case k23 => k_is)
    (case pg => k_is)
    (case hdd => k_is)
    (case po => k_is)
    (case sa => k_is)
    (case mk => k_is)
    (case kc => k_is)
    (case sf => k_is)
    (case nsq => k_is)
    (case ne1 => k_is)
    (case ne2 => k_is)
    (case x1 => k_is)
    (case x2 => k_is)
    (case x3 => k_is)
    (case x4 => k_is)
    (case cr1 => k_is)
    (case cr2 => k_is)
    (case na_early => k_is)
    (case na_begin => k_is)
    (case na_length => k_is)
    (case na_offsets => k_is)
    (case na_marks => k_is)
    (case na_parts => k_is)
    (case z_range => k_is)
    (case z_len => k_is)
    (case z_isinstance => k_is)
    (case z_bool => k_is)
    (case z_int => k_is)
    (case z_list => k_is)
    (case z_tuple => k_is)
    (case z_str => k_is)
    (case z_sum => k_is)
    (case z_all => k_is)
    (case z_any => k_is)
    (case z_sorted => k_is)
    (case z_dict => k_is)
    (case z_max => k_is)
    (case z_min => k_is)
    (case z_divmod => k_is)
    (case z_abs => k_is)
    (case z_enumerate => k_is)
    (case v_MAX_TICK => k_is)
    (case v_MAX_LENGTH => k_is)
    (case v_MAX_BEGIN => k_is)
    (case v_DIGITS => k_is)
    (case v_MAX_DIGITS => k_is)
    (case v_NEVER => k_is)
    (case v_BAR => k_is)
