import PyProof.Rows.All
import Wide.All
import OpenK.AllK
import Wide.FinOn
import PyProof.InstNe
import HandS.ForMost
import HandS.Property
import HandS.ClsMeth
import HandS.Star
import HandS.IsInst
import HandS.TupAny
import HandS.TupMul
import HandS.FStr
import HandS.SortInts
import HandS.DictComp
import KE.GoesEnum
import HandS.Style
import HandS.Steps
import HandS.Flow
import HandS.Codes
import KE.KTupSum
import HandS.NoneIn
import PySem.Challenge.RW_tracktimes_k03_joined_rows
set_option Elab.async false
set_option linter.all false
set_option maxRecDepth 100000
set_option maxHeartbeats 4000000
namespace Tk
structure RV where
  early : List Int
  beg : Int
  len : Int
  offs : List Int
  deriving DecidableEq

def qhas (e : List Int) (b l : Int) (o : List Int) (t : Int) : Bool := if t < b then decide (t ∈ e) else decide ((t - b) % l ∈ o)
def RV.has (r : RV) (t : Int) : Bool := qhas r.early r.beg r.len r.offs t

structure WF (e : List Int) (b l : Int) (o : List Int) : Prop where
  es : e.Pairwise (· < ·)
  er : ∀ x ∈ e, 0 ≤ x ∧ x < b
  b0 : 0 ≤ b
  l1 : 1 ≤ l
  os : o.Pairwise (· < ·)
  ow : ∀ x ∈ o, 0 ≤ x ∧ x < l

def Per (S : Int → Bool) (b n : Int) : Prop := ∀ t, b ≤ t → S t = S (t + n)

structure Canon (r : RV) : Prop where
  wf : WF r.early r.beg r.len r.offs
  ml : ∀ n b, 1 ≤ n → Per r.has b n → r.len ≤ n
  mb : ∀ b, 0 ≤ b → Per r.has b r.len → r.beg ≤ b

theorem qhas_lo {e o : List Int} {b l t : Int} (h : t < b) : qhas e b l o t = decide (t ∈ e) := by
  unfold qhas; rw [if_pos h]
theorem qhas_hi {e o : List Int} {b l t : Int} (h : b ≤ t) : qhas e b l o t = decide ((t - b) % l ∈ o) := by
  unfold qhas; rw [if_neg (by omega)]
theorem qhas_neg {e o : List Int} {b l t : Int} (w : WF e b l o) (h : t < 0) : qhas e b l o t = false := by
  have hb := w.b0
  rw [qhas_lo (by omega)]
  refine decide_eq_false fun hm => ?_
  have := (w.er t hm).1
  omega
theorem emod_add_mul {t n k l : Int} : (t + l * k) % l = t % l := Int.add_mul_emod_self_left t l k
theorem qhas_per {e o : List Int} {b l : Int} (hl : 1 ≤ l) : Per (qhas e b l o) b l := by
  intro t h
  rw [qhas_hi h, qhas_hi (by omega)]
  have : (t + l - b) % l = (t - b) % l := by
    have e1 : t + l - b = (t - b) + l := by omega
    rw [e1, Int.add_emod_right]
  rw [this]

theorem Per.up {S : Int → Bool} {b c n : Int} (h : Per S b n) (hc : b ≤ c) : Per S c n := fun t ht => h t (by omega)
theorem Per.mulN {S : Int → Bool} {b n : Int} (hn : 0 ≤ n) (h : Per S b n) : ∀ k : Nat, Per S b (n * (k : Int))
  | 0 => fun t _ => by simp
  | k + 1 => fun t ht => by
    have ih := Per.mulN hn h k t ht
    have hk : 0 ≤ n * (k : Int) := Int.mul_nonneg hn (Int.natCast_nonneg k)
    have h2 := h (t + n * (k : Int)) (by omega)
    have e : t + n * ((k + 1 : Nat) : Int) = t + n * (k : Int) + n := by
      rw [Int.natCast_add, Int.mul_add]; simp; omega
    rw [e, ← h2, ih]
theorem Per.mul {S : Int → Bool} {b n k : Int} (hn : 0 ≤ n) (hk : 0 ≤ k) (h : Per S b n) : Per S b (n * k) := by
  have := Per.mulN hn h k.toNat
  rwa [Int.toNat_of_nonneg hk] at this
theorem Per.rem {S : Int → Bool} {b m n : Int} (hn : 1 ≤ n) (hm : 0 ≤ m) (h1 : Per S b m) (h2 : Per S b n) : Per S b (m % n) := by
  have hq : 0 ≤ m / n := Int.ediv_nonneg hm (by omega)
  have hr : 0 ≤ m % n := Int.emod_nonneg m (by omega)
  have h3 := Per.mul (k := m / n) (by omega) hq h2
  have e : n * (m / n) + m % n = m := Int.mul_ediv_add_emod m n
  intro t ht
  have a := h1 t ht
  have c := h3 (t + m % n) (by omega)
  have e2 : t + m % n + n * (m / n) = t + m := by omega
  rw [e2] at c
  rw [a, c]
theorem Per.congr {S T : Int → Bool} {b n : Int} (hb : 0 ≤ b) (hn : 0 ≤ n) (h : ∀ t, 0 ≤ t → S t = T t) (p : Per S b n) : Per T b n := fun t ht => by
  rw [← h t (by omega), ← h (t + n) (by omega)]
  exact p t ht

theorem sorted_ext : ∀ {l m : List Int}, l.Pairwise (· < ·) → m.Pairwise (· < ·) → (∀ x, x ∈ l ↔ x ∈ m) → l = m
  | [], [], _, _, _ => rfl
  | [], y :: m, _, _, h => absurd ((h y).mpr List.mem_cons_self) List.not_mem_nil
  | x :: l, [], _, _, h => absurd ((h x).mp List.mem_cons_self) List.not_mem_nil
  | x :: l, y :: m, hl, hm, h => by
    have hl' := List.pairwise_cons.mp hl
    have hm' := List.pairwise_cons.mp hm
    have e : x = y := by
      have h1 := (h x).mp List.mem_cons_self
      have h2 := (h y).mpr List.mem_cons_self
      rcases List.mem_cons.mp h1 with e | h1
      · exact e
      · rcases List.mem_cons.mp h2 with e | h2
        · exact e.symm
        · have a := hl'.1 y h2
          have c := hm'.1 x h1
          omega
    subst e
    refine congrArg (x :: ·) (sorted_ext hl'.2 hm'.2 fun z => ⟨fun hz => ?_, fun hz => ?_⟩)
    · rcases List.mem_cons.mp ((h z).mp (List.mem_cons_of_mem _ hz)) with e | q
      · subst e
        have := hl'.1 z hz
        omega
      · exact q
    · rcases List.mem_cons.mp ((h z).mpr (List.mem_cons_of_mem _ hz)) with e | q
      · subst e
        have := hm'.1 z hz
        omega
      · exact q
theorem RV.has_lo {r : RV} {t : Int} (h : t < r.beg) : r.has t = decide (t ∈ r.early) := qhas_lo h
theorem RV.has_hi {r : RV} {t : Int} (h : r.beg ≤ t) : r.has t = decide ((t - r.beg) % r.len ∈ r.offs) := qhas_hi h
theorem RV.has_off {r : RV} (w : WF r.early r.beg r.len r.offs) {x : Int} (h0 : 0 ≤ x) (h1 : x < r.len) : r.has (r.beg + x) = decide (x ∈ r.offs) := by
  rw [RV.has_hi (by omega)]
  have e : r.beg + x - r.beg = x := by omega
  rw [e, Int.emod_eq_of_lt h0 h1]
theorem RV.ext' {r s : RV} (h1 : r.early = s.early) (h2 : r.beg = s.beg) (h3 : r.len = s.len) (h4 : r.offs = s.offs) : r = s := by
  cases r; cases s; simp only at h1 h2 h3 h4; subst h1 h2 h3 h4; rfl
theorem canon_unique {r s : RV} (cr : Canon r) (cs : Canon s) (h : ∀ t, 0 ≤ t → r.has t = s.has t) : r = s := by
  have h' : ∀ t, 0 ≤ t → s.has t = r.has t := fun t ht => (h t ht).symm
  have l1 := cr.wf.l1
  have l2 := cs.wf.l1
  have b1 := cr.wf.b0
  have b2 := cs.wf.b0
  have pr : Per r.has r.beg r.len := qhas_per l1
  have ps : Per s.has s.beg s.len := qhas_per l2
  have el : r.len = s.len := Int.le_antisymm (cr.ml _ _ l2 (ps.congr b2 (by omega) h')) (cs.ml _ _ l1 (pr.congr b1 (by omega) h))
  have eb : r.beg = s.beg := Int.le_antisymm (cr.mb _ b2 (by rw [el]; exact ps.congr b2 (by omega) h')) (cs.mb _ b1 (by rw [← el]; exact pr.congr b1 (by omega) h))
  refine RV.ext' (sorted_ext cr.wf.es cs.wf.es fun x => ?_) eb el (sorted_ext cr.wf.os cs.wf.os fun x => ?_)
  · constructor
    · intro hx
      have q := cr.wf.er x hx
      have a := h x q.1
      rw [RV.has_lo q.2, RV.has_lo (by omega), decide_eq_true hx] at a
      exact of_decide_eq_true a.symm
    · intro hx
      have q := cs.wf.er x hx
      have a := h x q.1
      rw [RV.has_lo (by omega), RV.has_lo q.2, decide_eq_true hx] at a
      exact of_decide_eq_true a
  · constructor
    · intro hx
      have q := cr.wf.ow x hx
      have a := h (r.beg + x) (by omega)
      rw [RV.has_off cr.wf q.1 q.2, eb, RV.has_off cs.wf q.1 (by omega), decide_eq_true hx] at a
      exact of_decide_eq_true a.symm
    · intro hx
      have q := cs.wf.ow x hx
      have a := h (r.beg + x) (by omega)
      rw [RV.has_off cr.wf q.1 (by omega), eb, RV.has_off cs.wf q.1 q.2, decide_eq_true hx] at a
      exact of_decide_eq_true a
theorem Canon.ext {r s : RV} (cr : Canon r) (cs : Canon s) (h : ∀ t, 0 ≤ t → r.has t = s.has t) : r = s := canon_unique cr cs h

def Closed (l : Int) (o : List Int) (n : Int) : Prop := ∀ x ∈ o, (x + n) % l ∈ o
structure Shortest (l : Int) (o : List Int) (n : Int) : Prop where
  n1 : 1 ≤ n
  nl : n ≤ l
  dv : l % n = 0
  cl : Closed l o n
  mn : ∀ m, 1 ≤ m → m < n → ¬ (l % m = 0 ∧ Closed l o m)
theorem closed_all {l : Int} {o : List Int} (hl : 1 ≤ l) (ow : ∀ x ∈ o, 0 ≤ x ∧ x < l) : Closed l o l := fun x hx => by
  rw [Int.add_emod_right, Int.emod_eq_of_lt (ow x hx).1 (ow x hx).2]
  exact hx
theorem closed_mulN {l n : Int} {o : List Int} (hl : 1 ≤ l) (ow : ∀ x ∈ o, 0 ≤ x ∧ x < l) (c : Closed l o n) : ∀ k : Nat, Closed l o (n * (k : Int))
  | 0 => fun x hx => by
    simp only [Int.natCast_zero, Int.mul_zero, Int.add_zero]
    rw [Int.emod_eq_of_lt (ow x hx).1 (ow x hx).2]
    exact hx
  | k + 1 => fun x hx => by
    have ih := closed_mulN hl ow c k x hx
    have := c _ ih
    rw [Int.emod_add_emod] at this
    have e : x + n * ((k + 1 : Nat) : Int) = x + n * (k : Int) + n := by
      rw [Int.natCast_add, Int.mul_add]; simp; omega
    rw [e]
    exact this
theorem rest_mem {l n : Int} {o : List Int} (hl : 1 ≤ l) (ow : ∀ x ∈ o, 0 ≤ x ∧ x < l) (n1 : 1 ≤ n) (dv : l % n = 0) (c : Closed l o n) {t : Int} :
    t % l ∈ o ↔ ∃ x ∈ o, x % n = t % n := by
  have dl : n ∣ l := Int.dvd_of_emod_eq_zero dv
  constructor
  · intro h
    exact ⟨_, h, Int.emod_emod_of_dvd t dl⟩
  · rintro ⟨x, hx, e⟩
    have hd : n ∣ (t - x) := by
      have : (t - x) % n = 0 := by
        rw [Int.sub_emod, e, Int.sub_self, Int.zero_emod]
      exact Int.dvd_of_emod_eq_zero this
    obtain ⟨k, hk⟩ := hd
    have hj : 0 ≤ k + l * (k.natAbs : Int) := by
      have h1 : (k.natAbs : Int) * 1 ≤ (k.natAbs : Int) * l := Int.mul_le_mul_of_nonneg_left hl (Int.natCast_nonneg _)
      rw [Int.mul_comm l]
      omega
    have := closed_mulN hl ow c (k + l * (k.natAbs : Int)).toNat x hx
    rw [Int.toNat_of_nonneg hj] at this
    have e2 : x + n * (k + l * (k.natAbs : Int)) = t + l * (n * (k.natAbs : Int)) := by
      rw [Int.mul_add]
      have : n * (l * (k.natAbs : Int)) = l * (n * (k.natAbs : Int)) := by
        rw [← Int.mul_assoc, ← Int.mul_assoc, Int.mul_comm n l]
      rw [this]
      omega
    rw [e2, Int.add_mul_emod_self_left] at this
    exact this
theorem closed_of_per {e o : List Int} {b l n c : Int} (w : WF e b l o) (n1 : 1 ≤ n) (p : Per (qhas e b l o) c n) : Closed l o n := fun x hx => by
  have hl := w.l1
  have q := w.ow x hx
  have hk : 0 ≤ (c.natAbs : Int) := Int.natCast_nonneg _
  have hm : (c.natAbs : Int) * 1 ≤ (c.natAbs : Int) * l := Int.mul_le_mul_of_nonneg_left hl hk
  have hb0 := w.b0
  have hc : c ≤ b + x + l * (c.natAbs : Int) := by rw [Int.mul_comm l]; omega
  have hb : b ≤ b + x + l * (c.natAbs : Int) := by rw [Int.mul_comm l]; omega
  have a := p _ hc
  rw [qhas_hi hb, qhas_hi (by omega)] at a
  have e1 : (b + x + l * (c.natAbs : Int) - b) % l = x := by
    have : b + x + l * (c.natAbs : Int) - b = x + l * (c.natAbs : Int) := by omega
    rw [this, Int.add_mul_emod_self_left, Int.emod_eq_of_lt q.1 q.2]
  have e2 : (b + x + l * (c.natAbs : Int) + n - b) % l = (x + n) % l := by
    have : b + x + l * (c.natAbs : Int) + n - b = (x + n) + l * (c.natAbs : Int) := by omega
    rw [this, Int.add_mul_emod_self_left]
  rw [e1, e2, decide_eq_true hx] at a
  exact of_decide_eq_true a.symm
theorem shortest_least {e o : List Int} {b l n : Int} (w : WF e b l o) (s : Shortest l o n) : ∀ (k : Nat) (m c : Int), m.toNat = k → 1 ≤ m → Per (qhas e b l o) c m → n ≤ m := by
  intro k
  induction k using Nat.strongRecOn with
  | ind k ih =>
    intro m c hk hm p
    have hl := w.l1
    have hr0 : 0 ≤ l % m := Int.emod_nonneg l (by omega)
    have hr1 : l % m < m := Int.emod_lt_of_pos l (by omega)
    by_cases hr : l % m = 0
    · have cl := closed_of_per w hm p
      rcases Int.lt_or_le m n with h | h
      · exact absurd ⟨hr, cl⟩ (s.mn m hm h)
      · exact h
    · have pl : Per (qhas e b l o) (max b c) l := (qhas_per hl).up (by omega)
      have pm : Per (qhas e b l o) (max b c) m := p.up (by omega)
      have pr := Per.rem hm (by omega) pl pm
      have := ih (l % m).toNat (by omega) (l % m) _ rfl (by omega) pr
      omega
end Tk


namespace Tk
theorem mod_eq_iff {a b n : Int} : a % n = b % n ↔ n ∣ (a - b) := by
  constructor
  · intro h
    exact Int.dvd_of_emod_eq_zero (by rw [Int.sub_emod, h, Int.sub_self, Int.zero_emod])
  · intro h
    have h0 := Int.emod_eq_zero_of_dvd h
    have e : a = b + (a - b) := by omega
    rw [e, Int.add_emod, h0, Int.add_zero, Int.emod_emod]

def cyc (o : List Int) (n t : Int) : Bool := decide (t % n ∈ o.map (· % n))
theorem cyc_iff {o : List Int} {n t : Int} : cyc o n t = true ↔ ∃ x ∈ o, x % n = t % n := by
  unfold cyc
  rw [decide_eq_true_iff, List.mem_map]
theorem cyc_hi {e o : List Int} {b l n t : Int} (w : WF e b l o) (s : Shortest l o n) (h : b ≤ t) : qhas e b l o t = cyc o n (t - b) := by
  rw [qhas_hi h, Bool.eq_iff_iff, decide_eq_true_iff, cyc_iff]
  exact rest_mem w.l1 w.ow s.n1 s.dv s.cl
theorem cyc_per {o : List Int} {n t : Int} : cyc o n (t + n) = cyc o n t := by
  unfold cyc; rw [Int.add_emod_right]

theorem take_lt {e : List Int} {k : Nat} {x c : Int} (hs : ∀ y ∈ e.take k, y < c) (hd : ∀ y ∈ e.drop k, c ≤ y) : x ∈ e.take k ↔ x ∈ e ∧ x < c := by
  constructor
  · intro h
    exact ⟨List.mem_of_mem_take h, hs x h⟩
  · rintro ⟨h, hx⟩
    rw [← List.take_append_drop k e] at h
    rcases List.mem_append.mp h with q | q
    · exact q
    · have := hd x q
      omega
theorem last_early {e : List Int} {k : Nat} {c : Int} (es : e.Pairwise (· < ·)) (hs : ∀ y ∈ e.take k, y < c) (hd : ∀ y ∈ e.drop k, c ≤ y) (hk : k ≤ e.length) :
    (c - 1 ∈ e) ↔ ∃ h : 0 < k, e[k - 1]'(by omega) = c - 1 := by
  constructor
  · intro h
    have hm : c - 1 ∈ e.take k := (take_lt hs hd).mpr ⟨h, by omega⟩
    obtain ⟨i, hi, ei⟩ := List.getElem_of_mem hm
    have hl : (e.take k).length = k := by rw [List.length_take]; omega
    rw [hl] at hi
    refine ⟨by omega, ?_⟩
    have ei' : e[i] = c - 1 := by rw [← ei, List.getElem_take]
    by_cases q : i = k - 1
    · subst q; exact ei'
    · have lt := List.pairwise_iff_getElem.mp es i (k - 1) (by omega) (by omega) (by omega)
      have m2 : e[k - 1] ∈ e.take k := by
        rw [List.mem_take_iff_getElem]
        exact ⟨k - 1, by omega, rfl⟩
      have := hs _ m2
      omega
  · rintro ⟨h, ei⟩
    rw [← ei]
    exact List.getElem_mem _
theorem take_back {e : List Int} {k : Nat} {c : Int} (es : e.Pairwise (· < ·)) (hs : ∀ y ∈ e.take k, y < c) (hd : ∀ y ∈ e.drop k, c ≤ y) (hk : k ≤ e.length) :
    (c - 1 ∈ e → (∀ y ∈ e.take (k - 1), y < c - 1) ∧ (∀ y ∈ e.drop (k - 1), c - 1 ≤ y)) ∧ (c - 1 ∉ e → (∀ y ∈ e.take k, y < c - 1) ∧ (∀ y ∈ e.drop k, c - 1 ≤ y)) := by
  refine ⟨fun h => ?_, fun h => ⟨fun y hy => ?_, fun y hy => ?_⟩⟩
  · obtain ⟨h0, ei⟩ := (last_early es hs hd hk).mp h
    constructor
    · intro y hy
      obtain ⟨i, hi, e1⟩ := List.mem_take_iff_getElem.mp hy
      have := List.pairwise_iff_getElem.mp es i (k - 1) (by omega) (by omega) (by omega)
      omega
    · intro y hy
      obtain ⟨i, hi, e1⟩ := List.mem_drop_iff_getElem.mp hy
      by_cases q : i = 0
      · subst q
        simp only [Nat.add_zero] at e1
        omega
      · have := List.pairwise_iff_getElem.mp es (k - 1) (i + (k - 1)) (by omega) (by omega) (by omega)
        have e2 : e[i + (k - 1)]'(by omega) = y := by rw [← e1]; congr 1; omega
        omega
  · have a := hs y hy
    by_cases q : y = c - 1
    · subst q
      exact absurd (List.mem_of_mem_take hy) h
    · omega
  · have := hd y hy
    omega

theorem normal_canon {e o e' o' : List Int} {b l n c : Int} (w : WF e b l o) (ho : o ≠ []) (s : Shortest l o n) (h0 : 0 ≤ c) (hb : c ≤ b)
    (same : ∀ t, c ≤ t → t < b → decide (t ∈ e) = cyc o n (t - b)) (stop : c = 0 ∨ decide (c - 1 ∈ e) ≠ cyc o n (c - 1 - b))
    (es' : e'.Pairwise (· < ·)) (me : ∀ x, x ∈ e' ↔ x ∈ e ∧ x < c) (os' : o'.Pairwise (· < ·)) (mo : ∀ y, y ∈ o' ↔ ∃ x ∈ o, (x % n + (b - c)) % n = y) :
    Canon ⟨e', c, n, o'⟩ ∧ ∀ t, RV.has ⟨e', c, n, o'⟩ t = qhas e b l o t := by
  have hn := s.n1
  have hi : ∀ t, c ≤ t → qhas e b l o t = cyc o n (t - b) := fun t ht => by
    rcases Int.lt_or_le t b with q | q
    · rw [qhas_lo q]; exact same t ht q
    · exact cyc_hi w s q
  have hi' : ∀ t, c ≤ t → qhas e' c n o' t = cyc o n (t - b) := fun t ht => by
    rw [qhas_hi ht, Bool.eq_iff_iff, decide_eq_true_iff, cyc_iff, mo]
    have key : ∀ x : Int, ((x % n + (b - c)) % n = (t - c) % n) ↔ x % n = (t - b) % n := fun x => by
      rw [Int.emod_add_emod, mod_eq_iff, mod_eq_iff]
      have : x + (b - c) - (t - c) = x - (t - b) := by omega
      rw [this]
    constructor
    · rintro ⟨x, hx, q⟩; exact ⟨x, hx, (key x).mp q⟩
    · rintro ⟨x, hx, q⟩; exact ⟨x, hx, (key x).mpr q⟩
  have eqv : ∀ t, qhas e' c n o' t = qhas e b l o t := fun t => by
    rcases Int.lt_or_le t c with q | q
    · rw [qhas_lo q, qhas_lo (by omega), Bool.eq_iff_iff, decide_eq_true_iff, decide_eq_true_iff, me]
      exact ⟨fun z => z.1, fun z => ⟨z, q⟩⟩
    · rw [hi' t q, hi t q]
  have w' : WF e' c n o' := ⟨es', fun x hx => ⟨(w.er x ((me x).mp hx).1).1, ((me x).mp hx).2⟩, h0, hn, os', fun y hy => by
    obtain ⟨x, _, q⟩ := (mo y).mp hy
    rw [← q]
    exact ⟨Int.emod_nonneg _ (by omega), Int.emod_lt_of_pos _ (by omega)⟩⟩
  have cg : ∀ m d, Per (RV.has ⟨e', c, n, o'⟩) d m → Per (qhas e b l o) d m := fun m d p t ht => by
    rw [← eqv t, ← eqv (t + m)]
    exact p t ht
  refine ⟨⟨w', fun m d hm p => shortest_least w s _ m d rfl hm (cg m d p), fun d hd p => ?_⟩, eqv⟩
  rcases Int.lt_or_le d c with q | q
  · exfalso
    rcases stop with z | z
    · omega
    · have a := cg n d p (c - 1) (by omega)
      have e1 : c - 1 + n - b = (c - 1 - b) + n := by omega
      rw [qhas_lo (by omega), hi (c - 1 + n) (by omega), e1, cyc_per] at a
      exact z a
  · exact q
theorem finite_canon {e : List Int} {b : Int} (es : e.Pairwise (· < ·)) (e0 : ∀ x ∈ e, 0 ≤ x) (hb : (e = [] ∧ b = 0) ∨ ∃ z ∈ e, b = z + 1 ∧ ∀ x ∈ e, x ≤ z) :
    Canon ⟨e, b, 1, []⟩ ∧ ∀ t, RV.has ⟨e, b, 1, []⟩ t = decide (t ∈ e) := by
  have hx : ∀ x ∈ e, 0 ≤ x ∧ x < b := fun x hx => by
    rcases hb with ⟨rfl, _⟩ | ⟨z, _, h2, h3⟩
    · exact absurd hx List.not_mem_nil
    · exact ⟨e0 x hx, by have := h3 x hx; omega⟩
  have b0 : 0 ≤ b := by
    rcases hb with ⟨_, h⟩ | ⟨z, h1, h2, _⟩
    · omega
    · have := e0 z h1; omega
  have eqv : ∀ t, RV.has ⟨e, b, 1, []⟩ t = decide (t ∈ e) := fun t => by
    rcases Int.lt_or_le t b with q | q
    · exact RV.has_lo q
    · rw [RV.has_hi q]
      simp only [List.not_mem_nil, decide_false]
      exact (decide_eq_false fun h => by have := (hx t h).2; omega).symm
  refine ⟨⟨⟨es, hx, b0, Int.le_refl 1, List.Pairwise.nil, fun _ h => absurd h List.not_mem_nil⟩, fun n _ hn _ => hn, fun d hd p => ?_⟩, eqv⟩
  rcases hb with ⟨_, h⟩ | ⟨z, h1, h2, h3⟩
  · show b ≤ d
    omega
  · show b ≤ d
    rcases Int.lt_or_le d b with q | q
    · exfalso
      have up : ∀ k : Nat, z + (k : Int) ∈ e := fun k => by
        induction k with
        | zero => simpa using h1
        | succ k ih =>
          have a := p (z + k) (by omega)
          rw [eqv, eqv, decide_eq_true ih] at a
          have := of_decide_eq_true a.symm
          have e1 : z + ((k + 1 : Nat) : Int) = z + k + 1 := by omega
          rw [e1]; exact this
      have := h3 _ (up 1)
      omega
    · exact q

theorem WF.has_per {e o : List Int} {b l c k : Int} (w : WF e b l o) (hc : b ≤ c) (hk : 0 ≤ k) : Per (qhas e b l o) c (l * k) := ((qhas_per w.l1).up hc).mul (by have := w.l1; omega) hk
theorem raw_set {S : Int → Bool} {e o : List Int} {b l : Int} (b0 : 0 ≤ b) (l1 : 1 ≤ l) (neg : ∀ t, t < 0 → S t = false) (p : Per S b l) (es : e.Pairwise (· < ·)) (me : ∀ x, x ∈ e ↔ S x = true ∧ x < b) (os : o.Pairwise (· < ·))
    (mo : ∀ x, x ∈ o ↔ S (x + b) = true ∧ 0 ≤ x ∧ x < l) : WF e b l o ∧ ∀ t, qhas e b l o t = S t := by
  refine ⟨⟨es, fun x hx => ?_, b0, l1, os, fun x hx => ((mo x).mp hx).2⟩, fun t => ?_⟩
  · have q := (me x).mp hx
    refine ⟨?_, q.2⟩
    rcases Int.lt_or_le x 0 with z | z
    · rw [neg x z] at q
      exact absurd q.1 (by simp)
    · exact z
  · rcases Int.lt_or_le t b with q | q
    · rw [qhas_lo q]
      cases h : S t with
      | true => exact decide_eq_true ((me t).mpr ⟨h, q⟩)
      | false => exact decide_eq_false fun z => by rw [((me t).mp z).1] at h; cases h
    · rw [qhas_hi q]
      have r0 : 0 ≤ (t - b) % l := Int.emod_nonneg _ (by omega)
      have r1 : (t - b) % l < l := Int.emod_lt_of_pos _ (by omega)
      have e1 : l * ((t - b) / l) + (t - b) % l = t - b := Int.mul_ediv_add_emod _ _
      have d0 : 0 ≤ (t - b) / l := Int.ediv_nonneg (by omega) (by omega)
      have a := (p.mul (by omega) d0) ((t - b) % l + b) (by omega)
      have e2 : (t - b) % l + b + l * ((t - b) / l) = t := by omega
      rw [e2] at a
      rw [← a]
      cases h : S ((t - b) % l + b) with
      | true => exact decide_eq_true ((mo _).mpr ⟨h, r0, r1⟩)
      | false => exact decide_eq_false fun z => by rw [((mo _).mp z).1] at h; cases h
end Tk


namespace TkL
open PySem PySem.Spec PyProof.Rows L2

structure DefN (P : Program) (w : World) (K : PySem.W.Frag) (mg : Str → Option Value) (base : Heap) (CX : CXT) (k : Nat) (x : Str) (ps : List Str) (sp : Sp) : Prop where
  ex : ∃ f fd, mg x = some (.ref f) ∧ PySem.W.keepIn K (.ref f) = true ∧ FnOk P w K mg base CX k f fd ps sp ∧ Binds K fd ps []
structure MetN (P : Program) (w : World) (K : PySem.W.Frag) (mg : Str → Option Value) (base : Heap) (CX : CXT) (k : Nat) (C : Addr) (m : Str) (ps : List Str) (sp : Sp) : Prop where
  ex : ∃ f fd, PySem.W.findIn K (.ref C) m = some (some (.ref f)) ∧ PySem.W.isFn K (.ref f) = true ∧ PySem.W.fnIn K f = true ∧ PySem.W.keepIn K (.ref f) = true ∧ FnOk P w K mg base CX k f fd ps sp ∧ Binds K fd ps []
structure PropN (P : Program) (w : World) (K : PySem.W.Frag) (mg : Str → Option Value) (base : Heap) (CX : CXT) (k : Nat) (C : Addr) (m : Str) (sp : Sp) : Prop where
  ex : ∃ p g fd, PropOf K C m p g ∧ FnOk P w K mg base CX k g fd ["self"] sp ∧ Binds K fd ["self"] []
structure CmN (P : Program) (w : World) (K : PySem.W.Frag) (mg : Str → Option Value) (base : Heap) (CX : CXT) (k : Nat) (C : Addr) (m : Str) (sp : Sp) : Prop where
  ex : ∃ mc p g, ClX.CRead K C mc ∧ ClX.CMet K C mc m p g ∧ FnR P w K mg base CX k g sp
structure OwnC (K : PySem.W.Frag) (C : Addr) : Prop where
  cl : Cls K C
  sf : PySem.W.selfFirst K C = true
  ns : PySem.W.noSeq K C = true
section
variable {P : Program} {w : World} {K : PySem.W.Frag} {mg : Str → Option Value} {base : Heap} {CX : CXT} {k j : Nat} {C : Addr} {m x : Str} {ps : List Str} {sp sp' : Sp}
theorem DefN.mono (F : DefN P w K mg base CX j x ps sp) (h : j ≤ k) : DefN P w K mg base CX k x ps sp := by
  obtain ⟨f, fd, a, b, c, d⟩ := F.ex
  exact ⟨f, fd, a, b, c.mono h, d⟩
theorem DefN.imp (F : DefN P w K mg base CX k x ps sp) (h : ∀ vs H Q E, sp' vs H Q E → sp vs H Q E) : DefN P w K mg base CX k x ps sp' := by
  obtain ⟨f, fd, a, b, c, d⟩ := F.ex
  exact ⟨f, fd, a, b, c.imp h, d⟩
theorem MetN.raw (F : MetN P w K mg base CX k C m ps sp) : ∃ f, PySem.W.findIn K (.ref C) m = some (some (.ref f)) ∧ PySem.W.isFn K (.ref f) = true ∧ PySem.W.fnIn K f = true ∧ FnR P w K mg base CX k f sp := by
  obtain ⟨f, fd, a, b, c, _, d, e⟩ := F.ex
  refine ⟨f, a, b, c, ?_⟩
  have z := d.raw e .nil
  simpa only [List.append_nil] using z
theorem MetN.mono (F : MetN P w K mg base CX j C m ps sp) (h : j ≤ k) : MetN P w K mg base CX k C m ps sp := by
  obtain ⟨f, fd, a, b, c, d, e, g⟩ := F.ex
  exact ⟨f, fd, a, b, c, d, e.mono h, g⟩
theorem MetN.imp (F : MetN P w K mg base CX k C m ps sp) (h : ∀ vs H Q E, sp' vs H Q E → sp vs H Q E) : MetN P w K mg base CX k C m ps sp' := by
  obtain ⟨f, fd, a, b, c, d, e, g⟩ := F.ex
  exact ⟨f, fd, a, b, c, d, e.imp h, g⟩
end
def tDef (sp : Sp) (E : XK) (t : TA) : TE := fun σ H Q => t σ H fun vs H1 => sp vs H1 Q E
def tMet (C : Addr) (m : Str) (sp : Sp) (E : XK) (ta : TE) (t : TA) : TE := fun σ H Q => ta σ H fun x H1 => ∃ a dx fs, x = .ref a ∧ H1 a = some (.ins C dx fs) ∧ fs.lookup m = none ∧ t σ H1 fun vs H2 => sp (x :: vs) H2 Q E
def tPrp (C : Addr) (sp : Sp) (E : XK) (ta : TE) : TE := fun σ H Q => ta σ H fun x H1 => ∃ a dx fs, x = .ref a ∧ H1 a = some (.ins C dx fs) ∧ sp [.ref a] H1 Q E
theorem tCall_nil {sp : Sp} {E : XK} {t : TA} : tCall sp [] E t = tDef sp E t := by
  funext σ H Q
  show t σ H (fun vs H1 => sp (vs ++ []) H1 Q E) = t σ H (fun vs H1 => sp vs H1 Q E)
  simp only [List.append_nil]
theorem tMeth_nil {C : Addr} {m : Str} {sp : Sp} {E : XK} {ta : TE} {t : TA} : tMeth C m sp [] E ta t = tMet C m sp E ta t := by
  funext σ H Q
  show ta σ H (fun x H1 => ∃ a dx fs, x = .ref a ∧ H1 a = some (.ins C dx fs) ∧ fs.lookup m = none ∧ t σ H1 fun vs H2 => sp (x :: (vs ++ [])) H2 Q E) = ta σ H fun x H1 => ∃ a dx fs, x = .ref a ∧ H1 a = some (.ins C dx fs) ∧ fs.lookup m = none ∧ t σ H1 fun vs H2 => sp (x :: vs) H2 Q E
  simp only [List.append_nil]
section
variable {X : Cx} {CX : CXT} {k : Nat} {C : Addr} {m x : Str} {ps : List Str} {sp : Sp} {E : XK} {o e : Expr} {es : List Expr} {ta te tf : TE} {t : TA} {p apos pos : Pos}
theorem pe_def (F : DefN X.prog X.w X.K X.mg X.base CX k x ps sp) (hr : Room k X.A) (hx : Passes CX X E) (ha : PA X (e :: es) t) (hg : Gl X x := by rfl) (hdb : (x == ("__debug__" : Str)) = false := by decide)
    (he : starEach (e :: es) X.env = (false, eval e X.env) :: starEach es X.env := by rfl) (hpl : (backTo pos (starEach es X.env)).any (·.1) = false := by rfl) : PE X (.Call (.Name x p) (e :: es) [] pos) (tDef sp E t) := by
  obtain ⟨f, fd, a, b, c, d⟩ := F.ex
  have z := pe_call (p := p) (pos := pos) (dvs := []) c hr hg a b d .nil hx ha hdb he hpl
  rwa [tCall_nil] at z
theorem pe_def0 (F : DefN X.prog X.w X.K X.mg X.base CX k x ps sp) (hr : Room k X.A) (hx : Passes CX X E) (hg : Gl X x := by rfl) (hdb : (x == ("__debug__" : Str)) = false := by decide) : PE X (.Call (.Name x p) [] [] pos) (tDef sp E tNil) := by
  obtain ⟨f, fd, a, b, c, d⟩ := F.ex
  have z := pe_call0 (p := p) (pos := pos) (dvs := []) c hr hg a b d .nil hx hdb
  rwa [tCall_nil] at z
theorem pe_met {pl : Sem Bool} (c : Cls X.K C) (F : MetN X.prog X.w X.K X.mg X.base CX k C m ps sp) (hr : Room k X.A) (hx : Passes CX X E) (he : PE X o ta) (ha : PA X (e :: es) t)
    (hst : starEach (e :: es) X.env = (false, eval e X.env) :: starEach es X.env := by rfl) (hpl : (backTo pos (starEach es X.env)).any (·.1) = false := by rfl)
    (ht : eval (.Call (.Attribute o m apos) (e :: es) [] pos) X.env = (do
      let ov ← eval o X.env
      standAt apos.atName
      let (f, first) ← holding [ov] (getMethod ov m pl)
      callWith pos f first (backTo pos (starEach (e :: es) X.env)) (backToKw pos (keywordEach [] X.env))) := by rfl) : PE X (.Call (.Attribute o m apos) (e :: es) [] pos) (tMet C m sp E ta t) := by
  obtain ⟨f, fd, a, b, _, kp, d, g⟩ := F.ex
  have z := pe_meth (pl := pl) (dvs := []) he c ⟨a, b, kp⟩ d hr g .nil hx ha hst hpl ht
  rwa [tMeth_nil] at z
theorem pe_met0 {pl : Sem Bool} (c : Cls X.K C) (F : MetN X.prog X.w X.K X.mg X.base CX k C m ps sp) (hr : Room k X.A) (hx : Passes CX X E) (he : PE X o ta)
    (ht : eval (.Call (.Attribute o m apos) [] [] pos) X.env = (do
      let ov ← eval o X.env
      standAt apos.atName
      let (f, first) ← holding [ov] (getMethod ov m pl)
      callWith pos f first (backTo pos (starEach [] X.env)) (backToKw pos (keywordEach [] X.env))) := by rfl) : PE X (.Call (.Attribute o m apos) [] [] pos) (tMet C m sp E ta tNil) := by
  obtain ⟨f, fd, a, b, _, kp, d, g⟩ := F.ex
  have z := pe_meth0 (pl := pl) (dvs := []) he c ⟨a, b, kp⟩ d hr g .nil hx ht
  rwa [tMeth_nil] at z
theorem pe_prp (c : Cls X.K C) (F : PropN X.prog X.w X.K X.mg X.base CX k C m sp) (hr : Room (k + 1) X.A) (hx : Passes CX X.nox E) (he : PE X e ta) (hab : attributeBase e m X.env (eval e X.env) = eval e X.env := by rfl) : PE X (.Attribute e m pos) (tPrp C sp E ta) := by
  obtain ⟨p, g, fd, hp, d, b⟩ := F.ex
  have z := pe_prop (pos := pos) (dvs := []) he c hp d hr b .nil hx hab
  exact z
theorem pe_ins (F : MetN X.prog X.w X.K X.mg X.base CX k C "__call__" ps sp) (hr : Room k X.A) (hx : Passes CX X E) (hf : PE X o tf) (ha : PA X (e :: es) t)
    (ht : eval (.Call o (e :: es) [] pos) X.env = (do callWith pos (← eval o X.env) [] (backTo pos (starEach (e :: es) X.env)) (backToKw pos (keywordEach [] X.env))) := by rfl)
    (he : starEach (e :: es) X.env = (false, eval e X.env) :: starEach es X.env := by rfl) (hpl : (backTo pos (starEach es X.env)).any (·.1) = false := by rfl) : PE X (.Call o (e :: es) [] pos) (StX.tCallO X C sp E tf t) := by
  obtain ⟨f, a, b, c, d⟩ := F.raw
  exact StX.pe_callO hf ⟨a, b, c⟩ d hr hx ha ht he hpl
theorem pe_cm {pl : Sem Bool} (F : CmN X.prog X.w X.K X.mg X.base CX k C m sp) (hr : Room k X.A) (hx : Passes CX X E) (he : PE X o ta) (ha : PA X (e :: es) t)
    (hst : starEach (e :: es) X.env = (false, eval e X.env) :: starEach es X.env := by rfl) (hpl : (backTo pos (starEach es X.env)).any (·.1) = false := by rfl)
    (ht : eval (.Call (.Attribute o m apos) (e :: es) [] pos) X.env = (do
      let ov ← eval o X.env
      standAt apos.atName
      let (f, first) ← holding [ov] (getMethod ov m pl)
      callWith pos f first (backTo pos (starEach (e :: es) X.env)) (backToKw pos (keywordEach [] X.env))) := by rfl) : PE X (.Call (.Attribute o m apos) (e :: es) [] pos) (ClX.tCMeth C sp E ta t) := by
  obtain ⟨mc, p, g, r, c, F⟩ := F.ex
  exact ClX.pe_cmeth (pl := pl) he r c F hr hx ha hst hpl ht
end
theorem noNI {v : V} : ¬ RelV v Value.notImplemented := by
  cases v <;> intro h <;> first | (obtain ⟨_, h⟩ := h; cases h) | cases h
section
variable {X : Cx} {CX : CXT} {k : Nat} {C : Addr} {m x : Str} {ps : List Str} {sp : Sp} {E : XK}
theorem ep_back {pins : List (Addr × Obj)} {σ : L2.St} {Q : VK} {v : Value} {s : Shared} (h : EP X pins σ Q v s) : PySem.W.CmpBack (EP X pins σ Q) v s := by
  cases v with
  | notImplemented =>
    obtain ⟨_, _, _, r, _⟩ := h
    exact noNI r
  | _ => exact h
def rOwn (C : Addr) (sp : Sp) (E : XK) : R2 := fun x y H Q => ∃ a dx fs b dy gs, x = .ref a ∧ y = .ref b ∧ H a = some (.ins C dx fs) ∧ H b = some (.ins C dy gs) ∧ sp [x, y] H Q E
theorem op_own {op : Operator} (o : OwnC X.K C) (F : MetN X.prog X.w X.K X.mg X.base CX k C (PySem.dunder op.info.2) ps sp) (hr : Room k X.A) (hx : Passes CX X E) : OpR X (binaryOp op) (rOwn C sp E) := by
  intro pins s σ H x y v u Q I rx ry h
  obtain ⟨a, dx, fs, b, dy, gs, rfl, rfl, ha, hb, h⟩ := h
  cases rx
  cases ry
  obtain ⟨f, e1, e2, e3, G⟩ := F.raw
  obtain ⟨mA, O, _⟩ := ins_get I.hok ha
  obtain ⟨od, J, _⟩ := O.look
  obtain ⟨mB, O2, _⟩ := ins_get I.hok hb
  obtain ⟨od2, J2, _⟩ := O2.look
  obtain ⟨mf, Fr⟩ := I.fr
  refine PySem.W.binop_K Fr I.ok.mod.kin J J2.type o.sf e1 e2 (wpAny_call ?_)
  refine codeAny_mono (run_fnR (us := [.ref a, .ref b]) (vs := [.ref a, .ref b]) G hr hx I (.cons rfl (.cons rfl .nil)) h) fun r s' hq => ?_
  cases r with
  | error e => exact hq
  | ok fl =>
    cases fl with
    | ret u => exact ep_back hq
    | next => exact hq
    | brk => exact hq
    | cont => exact hq
structure OpT (K : PySem.W.Frag) (C : Addr) (nm : String) (T : String) : Prop where
  ex : ∃ fo ro rc, PySem.W.findIn K (.ref C) (dunderR nm) = some rc ∧ rc = none ∧ PySem.W.findIn K (.type T) (PySem.dunder nm) = some fo ∧ PySem.W.findIn K (.type T) (dunderR nm) = some ro ∧ PySem.W.subIn K (.type T) (.ref C) = some false
def rOwnI (C : Addr) (sp : Sp) (E : XK) : R2 := fun x y H Q => ∃ a dx fs i, x = .ref a ∧ y = .int i ∧ H a = some (.ins C dx fs) ∧ sp [x, y] H Q E
theorem op_ownI {op : Operator} (o : OwnC X.K C) (t : OpT X.K C op.info.2 "int") (F : MetN X.prog X.w X.K X.mg X.base CX k C (PySem.dunder op.info.2) ps sp) (hr : Room k X.A) (hx : Passes CX X E) : OpR X (binaryOp op) (rOwnI C sp E) := by
  intro pins s σ H x y v u Q I rx ry h
  obtain ⟨a, dx, fs, i, rfl, rfl, ha, h⟩ := h
  cases rx
  have ry0 := ry
  obtain ⟨t0, rfl⟩ := ry
  obtain ⟨f, e1, e2, e3, G⟩ := F.raw
  obtain ⟨mA, O, _⟩ := ins_get I.hok ha
  obtain ⟨od, J, _⟩ := O.look
  obtain ⟨mf, Fr⟩ := I.fr
  obtain ⟨fo, ro, rc, h1, h2, h3, h4, h5⟩ := t.ex
  refine PySem.W.ksp_binT Fr I.ok.mod.kin J rfl o.sf e1 e2 h1 (.inl h2) h3 h4 h5 (wpAny_call ?_)
  refine codeAny_mono (run_fnR (vs := [.ref a, .int i]) G hr hx I (.cons rfl (.cons ry0 .nil)) h) fun r s' hq => ?_
  cases r with
  | error e => exact hq
  | ok fl =>
    cases fl with
    | ret u => exact ep_back hq
    | next => exact hq
    | brk => exact hq
    | cont => exact hq
theorem notFirst_self {K : PySem.W.Frag} {C : Addr} : PySem.W.notFirst K C (.ref C) = true := by
  unfold PySem.W.notFirst
  rw [beq_self_eq_true, Bool.true_or]
theorem op_eqOwn (hu : X.A.units + 2 < cLine) (F : MetN X.prog X.w X.K X.mg X.base CX k C "__eq__" ps sp) (hr : Room k X.A) (hx : Passes CX X E) : OpR X (compareOp .Eq) (rOwn C sp E) := by
  intro pins s σ H x y v u Q I rx ry h
  obtain ⟨a, dx, fs, b, dy, gs, rfl, rfl, ha, hb, h⟩ := h
  cases rx
  cases ry
  obtain ⟨f, e1, e2, e3, G⟩ := F.raw
  obtain ⟨mA, O, _⟩ := ins_get I.hok ha
  obtain ⟨od, J, _⟩ := O.look
  obtain ⟨mB, O2, _⟩ := ins_get I.hok hb
  obtain ⟨od2, J2, _⟩ := O2.look
  obtain ⟨mf, Fr⟩ := I.fr
  refine PySem.W.cmp_K (op := .Eq) (Nat.lt_of_le_of_lt (Nat.le_add_right _ 2) hu) Fr I.ok.mod.kin J J2.type notFirst_self e1 e2 (wpAny_call ?_)
  refine codeAny_mono (run_fnR (us := [.ref a, .ref b]) (vs := [.ref a, .ref b]) G hr hx I (.cons rfl (.cons rfl .nil)) h) fun r s' hq => ?_
  cases r with
  | error e => exact hq
  | ok fl =>
    cases fl with
    | ret u => exact ep_back hq
    | next => exact hq
    | brk => exact hq
    | cont => exact hq
end
end TkL


namespace TkL
open PySem PySem.Spec PySem.Calls PyProof.Rows L2
section
variable {prog : Program} {w : World} {A : Around} {E : Value → Shared → Prop} {s : Shared} {K : PySem.W.Frag} {x C f : Addr} {b tb : Value} {ox : Obj} {od : Option Obj}
theorem ne_obj (X : K.In s.heap) (I : PySem.W.InstAt s.heap x ox C od) (hs : PySem.W.findIn K (.ref C) "__eq__" = some (some (.ref f))) (hf : PySem.W.isFn K (.ref f) = true) (hu : A.units < cLine) {Q : Fin → Shared → Prop}
    (h : wpAny (model prog w) A (call (.ref f) [.ref x, b]) (fun v s' => ∃ c, v = .bool c ∧ Q (.done (.ret (.bool (!c)))) s') E s) : wpAny (model prog w) A (Builtin.«object.__ne__» ⟨[.ref x, b], []⟩) Q E s := by
  obtain ⟨hh, g, d, t, os⟩ := s
  unfold Builtin.«object.__ne__»
  repeat (first
    | with_reducible refine wpAny_cRoomFor hu ?_
    | (refine wpAny_bind (m := callSpecialIfBound? (.ref x) (Str.ofString "__eq__") [b])
        (PySem.W.ifBound_K X I hs hf (wpAny_mono h (fun r s' hr => by
          obtain ⟨c, rfl, hq⟩ := hr
          repeat (first | exact hq | exact wpAny_pure hq | exact wpAny_truthy_bool hq | (refine wpAny_bind (m := truthy (.bool _)) (wpAny_truthy_bool ?_)) | wp_step)) fun _ _ e => e)))
    | wp_step)
theorem ne_special (X : K.In s.heap) (I : PySem.W.InstAt s.heap x ox C od) (hn : PySem.W.findIn K (.ref C) "__ne__" = some (some (.builtin "object.__ne__"))) (ho : PySem.W.subIn K (.ref C) (.type "object") = some true)
    (hs : PySem.W.findIn K (.ref C) "__eq__" = some (some (.ref f))) (hf : PySem.W.isFn K (.ref f) = true) (hu : A.units + 1 < cLine) {Q : Option Value → Shared → Prop}
    (h : wpAny (model prog w) A.in1 (call (.ref f) [.ref x, b]) (fun v s' => ∃ c, v = .bool c ∧ Q (some (.bool (!c))) s') E s) : wpAny (model prog w) A (tryCompare (.ref x) "__ne__" b) Q E s := by
  have sl : Slot "object" "__ne__" "object.__ne__" := Slot.of (owner := "object") (n := "__ne__") (by rw [typeLookup_type, builtinLookup_eq_fast]; kernel_rfl) (by decide +kernel) (by decide +kernel) (by decide +kernel) (.inl (by decide +kernel)) (by rw [isSubtype_type]; kernel_rfl)
  have inst : PySem.W.Looks (model prog w) s.heap (isInstance (.ref x) (.type "object")) true := by
    unfold isInstance
    exact I.type.andThen (PySem.W.looks_subIn X ho)
  have key : wpAny (model prog w) A (call (.builtin "object.__ne__") [.ref x, b]) (fun v s' => ∃ c, v = .bool (!c) ∧ Q (some (.bool (!c))) s') E s :=
    wpAny_call (codeAny_call_builtin sl.plain F.cmpEntry_ne (PySem.W.check_slot F.cmpKind_ne F.cmpSplit_ne inst (F.cmpArgs_ne _ _)
      (ne_obj (A := A.in1) X I hs hf hu (wpAny_mono h (fun v s' hv => by obtain ⟨c, e, q⟩ := hv; exact ⟨c, e, c, rfl, q⟩) fun _ _ e => e))))
  unfold tryCompare
  refine wpAny_bind ?_
  simp only [callSpecialIfBound?, bindSpecialIfBound?]
  refine wpAny_holding (wpAny_bind (wpAny_bind (wpAny_bind (I.type.here ((PySem.W.looks_findIn X hn).here ?_)))))
  refine wpAny_bind (wpAny_askSetting (wpAny_ite ?_))
  have fin : wpAny (model prog w) A (call (.builtin "object.__ne__") ([.ref x] ++ [b]) >>= fun v => pure (some v)) (fun r s' => wpAny (model prog w) A (match r with | some .notImplemented | none => pure none | some v => pure (some v)) Q E s') E s :=
    wpAny_bind (wpAny_mono key (fun v s' h' => by obtain ⟨c, rfl, q⟩ := h'; exact wpAny_pure (wpAny_pure q)) fun _ _ h' => h')
  split
  · rw [sl.bind]
    exact wpAny_bind (wpAny_pure (wpAny_pure fin))
  · rw [sl.bind]
    exact wpAny_tryCatch (wpAny_bind (wpAny_pure (wpAny_pure fin)))
theorem ne_K {Q : Value → Shared → Prop} (X : K.In s.heap) (I : PySem.W.InstAt s.heap x ox C od) (hb : PySem.W.Looks (model prog w) s.heap (typeOf b) tb) (hnf : PySem.W.notFirst K C tb = true)
    (hn : PySem.W.findIn K (.ref C) "__ne__" = some (some (.builtin "object.__ne__"))) (ho : PySem.W.subIn K (.ref C) (.type "object") = some true)
    (hs : PySem.W.findIn K (.ref C) "__eq__" = some (some (.ref f))) (hf : PySem.W.isFn K (.ref f) = true) (hu : A.units + 1 < cLine)
    (h : wpAny (model prog w) A.in1 (call (.ref f) [.ref x, b]) (fun v s' => ∃ c, v = .bool c ∧ Q (.bool (!c)) s') E s) : wpAny (model prog w) A (compareOp .NotEq (.ref x) b) Q E s := by
  have one : wpAny (model prog w) A (tryCompare (.ref x) "__ne__" b) (fun r s' => ∃ v, r = some v ∧ Q v s') E s :=
    ne_special X I hn ho hs hf hu (wpAny_mono h (fun v s' hv => by obtain ⟨c, e, q⟩ := hv; exact ⟨c, e, _, rfl, q⟩) fun _ _ e => e)
  show wpAny (model prog w) A (richCompare .NotEq (.ref x) b) Q E s
  unfold richCompare
  simp only [oneThing_ref]
  refine wpAny_holding (wpAny_bind (wpAny_cRoomFor (Nat.lt_of_succ_lt hu) ?_))
  rw [cmpInfo_NotEq]
  dsimp only
  refine wpAny_bind (I.type.here (wpAny_bind (hb.here ?_)))
  split
  · rename_i q
    have e : PySem.W.subIn K tb (.ref C) = some false := by
      rcases Bool.or_eq_true_iff.mp hnf with e | e
      · rw [beq_iff_eq.mp e] at q; simp at q
      · exact beq_iff_eq.mp e
    refine wpAny_bind ((PySem.W.looks_subIn X e).here ?_)
    simp only [Bool.false_eq_true, if_false]
    refine wpAny_bind (wpAny_mono one (fun r s' z => ?_) fun _ _ e => e)
    obtain ⟨v, rfl, hq⟩ := z
    exact wpAny_pure hq
  · refine wpAny_bind (wpAny_pure ?_)
    simp only [Bool.false_eq_true, if_false]
    refine wpAny_bind (wpAny_mono one (fun r s' z => ?_) fun _ _ e => e)
    obtain ⟨v, rfl, hq⟩ := z
    exact wpAny_pure hq
end
structure NeC (K : PySem.W.Frag) (C : Addr) : Prop where
  ne : PySem.W.findIn K (.ref C) "__ne__" = some (some (.builtin "object.__ne__"))
  ob : PySem.W.subIn K (.ref C) (.type "object") = some true
section
variable {X : Cx} {CX : CXT} {k : Nat} {C : Addr} {m x : Str} {ps : List Str} {sp : Sp} {E : XK} {o e e2 : Expr} {es : List Expr} {ta te tb tf : TE} {t : TA} {p apos pos : Pos}
theorem run_in1 {pins : List (Addr × Obj)} {σ : L2.St} {H : Hp} {s : Shared} {Q : VK} {f : Addr} {us : List Value} {vs : List V} (G : FnR X.prog X.w X.K X.mg X.base CX k f sp) (hr : Room (k + 1) X.A) (hx : Passes CX X E) (I : Inv X pins σ H s) (r : Vals vs us) (h : sp vs H Q E) :
    wpAny (model X.prog X.w) X.A.in1 (call (.ref f) us) (EP X pins σ Q) X.xe s := by
  refine wpAny_call (codeAny_mono (G X.A.in1 X.stack s H us vs Q E hr.in1 I.env0.in1 r h) fun r s' hq => ?_)
  cases r with
  | error e => exact hx pins σ H s e s' I hq
  | ok fl =>
    cases fl with
    | ret u => exact I.after hq
    | next => exact False.elim hq
    | brk => exact False.elim hq
    | cont => exact False.elim hq
def rOwnNe (C : Addr) (sp : Sp) (E : XK) : R2 := fun x y H Q => ∃ a dx fs b dy gs, x = .ref a ∧ y = .ref b ∧ H a = some (.ins C dx fs) ∧ H b = some (.ins C dy gs) ∧ sp [x, y] H (fun v H' => ∃ c, v = .bl c ∧ Q (.bl (!c)) H') E
theorem op_neOwn (N : NeC X.K C) (F : MetN X.prog X.w X.K X.mg X.base CX k C "__eq__" ps sp) (hr : Room (k + 1) X.A) (hx : Passes CX X E) : OpR X (compareOp .NotEq) (rOwnNe C sp E) := by
  intro pins s σ H x y v u Q I rx ry h
  obtain ⟨a, dx, fs, b, dy, gs, rfl, rfl, ha, hb, h⟩ := h
  cases rx
  cases ry
  obtain ⟨f, e1, e2, e3, G⟩ := F.raw
  obtain ⟨mA, O, _⟩ := ins_get I.hok ha
  obtain ⟨od, J, _⟩ := O.look
  obtain ⟨mB, O2, _⟩ := ins_get I.hok hb
  obtain ⟨od2, J2, _⟩ := O2.look
  refine ne_K I.kIn J J2.type notFirst_self N.ne N.ob e1 e2 (hu_of hr) ?_
  refine wpAny_mono (run_in1 (us := [.ref a, .ref b]) (vs := [.ref a, .ref b]) G hr hx I (.cons rfl (.cons rfl .nil)) h) (fun v s' hv => ?_) fun _ _ z => z
  obtain ⟨v', H', I', rv, c, ev, q⟩ := hv
  subst ev
  cases rv
  exact ⟨c, rfl, V.bl (!c), H', I', rfl, q⟩
def rOwnIn (C : Addr) (neg : Bool) (sp : Sp) (E : XK) : R2 := fun y x H Q => ∃ a dx fs, x = .ref a ∧ H a = some (.ins C dx fs) ∧ sp [x, y] H (fun v H' => ∃ c, v = .bl c ∧ Q (.bl (if neg then !c else c)) H') E
theorem op_inOwn (F : MetN X.prog X.w X.K X.mg X.base CX k C "__contains__" ps sp) (hr : Room k X.A) (hx : Passes CX X E) : OpR X (compareOp .In) (rOwnIn C false sp E) := by
  intro pins s σ H y x u v Q I ry rx h
  obtain ⟨a, dx, fs, rfl, ha, h⟩ := h
  cases rx
  obtain ⟨f, e1, e2, e3, G⟩ := F.raw
  obtain ⟨mA, O, _⟩ := ins_get I.hok ha
  obtain ⟨od, J, _⟩ := O.look
  obtain ⟨mf, Fr⟩ := I.fr
  refine PySem.W.in_K Fr I.ok.mod.kin J e1 e2 (wpAny_call ?_)
  refine codeAny_mono (run_fnR (us := [.ref a, u]) (vs := [.ref a, y]) G hr hx I (.cons rfl (.cons ry .nil)) h) fun r s' hq => ?_
  cases r with
  | error e => exact hq
  | ok fl =>
    cases fl with
    | ret z =>
      obtain ⟨v', H', I', rv, c, ev, q⟩ := hq
      subst ev
      cases rv
      exact wpAny_truthy_bool ⟨.bl c, H', I', rfl, q⟩
    | next => exact hq
    | brk => exact hq
    | cont => exact hq
theorem op_notInOwn (F : MetN X.prog X.w X.K X.mg X.base CX k C "__contains__" ps sp) (hr : Room k X.A) (hx : Passes CX X E) : OpR X (compareOp .NotIn) (rOwnIn C true sp E) := by
  intro pins s σ H y x u v Q I ry rx h
  obtain ⟨a, dx, fs, rfl, ha, h⟩ := h
  cases rx
  obtain ⟨f, e1, e2, e3, G⟩ := F.raw
  obtain ⟨mA, O, _⟩ := ins_get I.hok ha
  obtain ⟨od, J, _⟩ := O.look
  obtain ⟨mf, Fr⟩ := I.fr
  refine PySem.W.notIn_K Fr I.ok.mod.kin J e1 e2 (wpAny_call ?_)
  refine codeAny_mono (run_fnR (us := [.ref a, u]) (vs := [.ref a, y]) G hr hx I (.cons rfl (.cons ry .nil)) h) fun r s' hq => ?_
  cases r with
  | error e => exact hq
  | ok fl =>
    cases fl with
    | ret z =>
      obtain ⟨v', H', I', rv, c, ev, q⟩ := hq
      subst ev
      cases rv
      exact wpAny_truthy_bool ⟨.bl (!c), H', I', rfl, q⟩
    | next => exact hq
    | brk => exact hq
    | cont => exact hq
def rOwnIx (C : Addr) (sp : Sp) (E : XK) : R2 := fun x y H Q => ∃ a dx fs, x = .ref a ∧ H a = some (.ins C dx fs) ∧ sp [x, y] H Q E
theorem pe_ixOwn (F : MetN X.prog X.w X.K X.mg X.base CX k C "__getitem__" ps sp) (hr : Room (k + 1) X.A) (hx : Passes CX X E) (ha : PE X e ta) (hb : PE X e2 tb)
    (hsl : ∀ x i, subscripted e2 true (.ref x) i = runValue (.builtin "lifetime.subscript" ⟨[.ref x, i], []⟩) := by intro _ _; rfl) : PE X (.Subscript e e2 pos) (tOp (rOwnIx C sp E) ta tb) := by
  refine ⟨fun pins s σ H Q I h => ?_⟩
  refine Subscript_ (binT ha hb I h fun v u s2 x y H2 I2 rx ry q => ?_)
  obtain ⟨a, dx, fs, rfl, ha, h⟩ := q
  cases rx
  obtain ⟨f, e1, e2, e3, G⟩ := F.raw
  obtain ⟨mA, O, _⟩ := ins_get I2.hok ha
  obtain ⟨od, J, _⟩ := O.look
  obtain ⟨mf, Fr⟩ := I2.fr
  exact PySem.W.sub_K Fr I2.ok.mod.kin J e1 e3 e2 (run_in1 (us := [.ref a, u]) (vs := [.ref a, y]) G hr hx I2 (.cons rfl (.cons ry .nil)) h) (hsl _ _)
def rOwnTru (C : Addr) (sp : Sp) (E : XK) : V → Hp → (Bool → Hp → Prop) → Prop := fun x H Q => ∃ a dx fs, x = .ref a ∧ H a = some (.ins C dx fs) ∧ sp [x] H (fun v H' => ∃ c, v = .bl c ∧ Q c H') E
theorem tru_own (F : MetN X.prog X.w X.K X.mg X.base CX k C "__bool__" ps sp) (hr : Room k X.A) (hx : Passes CX X E) {pins : List (Addr × Obj)} {s : Shared} {σ : L2.St} {H : Hp} {x : V} {v : Value} {Q : Bool → Hp → Prop} (I : Inv X pins σ H s) (rx : RelV x v) (h : rOwnTru C sp E x H Q) :
    wpAny (model X.prog X.w) X.A (truthy v) (TP X pins σ Q) X.xe s := by
  obtain ⟨a, dx, fs, rfl, ha, h⟩ := h
  cases rx
  obtain ⟨f, e1, e2, e3, G⟩ := F.raw
  obtain ⟨mA, O, _⟩ := ins_get I.hok ha
  obtain ⟨od, J, _⟩ := O.look
  obtain ⟨mf, Fr⟩ := I.fr
  refine PySem.W.truthy_K Fr I.ok.mod.kin J e1 e2 (wpAny_call ?_)
  refine codeAny_mono (run_fnR (us := [.ref a]) (vs := [.ref a]) G hr hx I (.cons rfl .nil) h) fun r s' hq => ?_
  cases r with
  | error e => exact hq
  | ok fl =>
    cases fl with
    | ret z =>
      obtain ⟨v', H', I', rv, c, ev, q⟩ := hq
      subst ev
      cases rv
      exact ⟨H', I', q⟩
    | next => exact hq
    | brk => exact hq
    | cont => exact hq
def tTruO (C : Addr) (sp : Sp) (E : XK) (ta : TE) : TT := fun σ H Q => ta σ H fun x H1 => rOwnTru C sp E x H1 Q
theorem pt_own (F : MetN X.prog X.w X.K X.mg X.base CX k C "__bool__" ps sp) (hr : Room k X.A) (hx : Passes CX X E) (ha : PE X e ta) (he : ∀ whole, isTrue e X.env whole = (do let v ← whole; standAt e.pos; holding [v] (truthy v)) := by intro _; rfl) : PT X e (tTruO C sp E ta) := by
  refine ⟨fun pins s σ H Q I h => ?_⟩
  exact isTrue_plain (thn (ha.run pins s σ H _ I h) fun v s1 ⟨x, H1, I1, r1, q1⟩ => tru_own F hr hx I1 r1 q1) (he _)
end
structure MkN (P : Program) (w : World) (K : PySem.W.Frag) (mg : Str → Option Value) (base : Heap) (CX : CXT) (k : Nat) (C : Addr) (sp : Sp) : Prop where
  ex : ∃ f, Mk K C f ∧ FnR P w K mg base CX k f sp
def tMk (C : Addr) (sp : Sp) (E : XK) (t : TA) : TE := StX.tMakeR C sp E t
section
variable {X : Cx} {CX : CXT} {k i : Nat} {C : Addr} {m x : Str} {sp : Sp} {E : XK} {e : Expr} {es : List Expr} {t : TA} {p pos : Pos}
theorem pe_mkN (M : MkN X.prog X.w X.K X.mg X.base CX k C sp) (hr : Room (k + 1) X.A) (hm : X.mg x = some (.ref C)) (hx : Passes CX X E) (ha : PA X (e :: es) t) (hg : Gl X x := by rfl) (hdb : (x == ("__debug__" : Str)) = false := by decide)
    (he : starEach (e :: es) X.env = (false, eval e X.env) :: starEach es X.env := by rfl) (hpl : (backTo pos (starEach es X.env)).any (·.1) = false := by rfl) : PE X (.Call (.Name x p) (e :: es) [] pos) (tMk C sp E t) := by
  obtain ⟨f, M, F⟩ := M.ex
  exact StX.pe_makeR M F hr hg hm hx ha hdb he hpl
def tMkV (i : Nat) (C : Addr) (sp : Sp) (E : XK) (t : TA) : TE := fun σ H Q => σ[i]? = some (some (.ref C)) ∧ StX.tMakeR C sp E t σ H Q
theorem pe_mkV (M : MkN X.prog X.w X.K X.mg X.base CX k C sp) (hr : Room (k + 1) X.A) (hx : Passes CX X E) (ha : PA X (e :: es) t) (hN : X.N[i]? = some x := by rfl) (hv : Vis X.env.scope x := by first | exact Or.inl rfl | exact Or.inr (Or.inl rfl) | exact Or.inr (Or.inr rfl))
    (hd : (x == ("__debug__" : Str)) = false := by decide) (hcd : (x == ("__classdict__" : Str)) = false := by decide)
    (he : starEach (e :: es) X.env = (false, eval e X.env) :: starEach es X.env := by rfl) (hpl : (backTo pos (starEach es X.env)).any (·.1) = false := by rfl) : PE X (.Call (.Name x p) (e :: es) [] pos) (tMkV i C sp E t) := by
  obtain ⟨f, M, F⟩ := M.ex
  refine ⟨fun pins s σ H Q I h => ?_⟩
  obtain ⟨h0, h⟩ := h
  have hp := (pe_var (pos := p) hN hv hd hcd).run pins s σ H (fun v H' => v = .ref C ∧ H' = H) I ⟨_, h0, rfl, rfl⟩
  refine Call_ (thn hp fun u s1 ⟨y, H1, I1, ry, ey, eH⟩ => ?_) rfl
  subst ey eH
  cases ry
  refine PySem.W.callWith_K (h₀ := X.base) I.ok.mod.kin M.kp (thn (ha.run pos pins s1 σ _ _ I1 h) fun us s2 ⟨vs, H2, I2, r, q⟩ => ⟨I2.kIn, ?_⟩) he hpl
  exact StX.run_makeR M F hr hx I2 r q
end
end TkL


namespace TkL
open PySem PySem.Spec PySem.Calls PyProof.Rows L2
set_option maxHeartbeats 4000000 in
theorem meets_enum1 {v : Value} {o : Obj} {H : Heap → Prop} (B : Begins v o H) :
    Meets (Builtin.«enumerate.__new__» ⟨[.type "enumerate", v], []⟩) (fun _ R s => H s.heap ∧
      R (.ok (.ret (.ref (s.heap.push o).objs.size))) { s with heap := (s.heap.push o).push { cls := .type "enumerate", data := .fields #[.none, .bool false, .ref s.heap.objs.size, rawInt 0, .none, .none] } }) :=
  .of_wp fun prog w A R s h => by
    obtain ⟨hp, g, d, tk, os⟩ := s; obtain ⟨h1, h⟩ := h
    have hsub := sub_enumerate
    have q1 : ∀ {A' : Around} {E : Value → Shared → Prop} {Q : Value → Shared → Prop}, Q (.ref hp.objs.size) ⟨hp.push o, g, d, tk, os⟩ → wpAny (model prog w) A' (pyIter v) Q E ⟨hp, g, d, tk, os⟩ :=
      fun q => B.iter prog w _ _ ⟨hp, g, d, tk, os⟩ _ h1 q
    wp_walk using q1
    refine wpAny_stack_any fun st => wpAny_pure ?_
    split
    · rename_i c _ _ _ _ _
      cases (c == Value.type "enumerate")
      · wp_walk using q1
        exact ⟨_, rfl, h⟩
      · wp_walk using q1
        exact ⟨_, rfl, h⟩
    · wp_walk using q1
      exact ⟨_, rfl, h⟩
theorem enum_begins1 {prog : Program} {w : World} {A : Around} {E : Value → Shared → Prop} {s : Shared} {v : Value} {o : Obj} {H : Heap → Prop} {Q : Value → Shared → Prop} (B : Begins v o H) (h1 : H s.heap)
    (h : ∀ h', IsEnum h' (s.heap.objs.size + 1) s.heap.objs.size 0 .none → h'.get? s.heap.objs.size = some o → h'.objs.size = s.heap.objs.size + 2 →
      (∀ b o, s.heap.get? b = some o → h'.get? b = some o) → Q (.ref (s.heap.objs.size + 1)) { s with heap := h' }) :
    wpAny (model prog w) A (call (.type "enumerate") [v]) Q E s := by
  refine callType_new F.called_enumerate (by decide) (F.typeCall_enumerate_1 _) (F.newCall_enumerate_1 _) (fun obj => F.args_object_init_2 obj _) F.entry_enumerate_new (meets_enum1 B) ⟨h1, ?_⟩
  have hz : (s.heap.push o).objs.size = s.heap.objs.size + 1 := Heap.size_push ..
  show _ ∧ _
  rw [hz]
  have he : IsEnum ((s.heap.push o).push { cls := .type "enumerate", data := .fields #[.none, .bool false, .ref s.heap.objs.size, rawInt 0, .none, .none] }) (s.heap.objs.size + 1) s.heap.objs.size 0 .none := by
    have := Heap.get?_push_size (s.heap.push o) (o := { cls := .type "enumerate", data := .fields #[.none, .bool false, .ref s.heap.objs.size, rawInt 0, .none, .none] }) rfl
    rw [hz] at this; exact this
  refine ⟨⟨_, he, rfl⟩, h _ he (Heap.get?_push_of_some _ (Heap.get?_push_size _ B.free)) (by rw [Heap.size_push, hz]) fun b o x => Heap.get?_push_of_some _ (Heap.get?_push_of_some _ x)⟩
def IteT (K : PySem.W.Frag) (a : Addr) : It :=
  ⟨fun i H => ∃ (xs : List V) (x : V), SqT K H a xs ∧ xs[i]? = some x, fun i H v H' => ∃ T x, v = .ref T ∧ H T = none ∧ H' = upd H T (.tup [.int (i : Nat), x]) ∧ ∀ xs, SqT K H a xs → xs[i]? = some x, fun i H => ∃ xs : List V, SqT K H a xs ∧ xs.length ≤ i⟩
theorem turn_enumT {P : Program} {w : World} {K : PySem.W.Frag} {elts : List Expr} {kk : Nat} {tpos : Pos} (a e it : Addr) (hat : a ≠ it) (hae : a ≠ e) :
    Turn P w K (.Tuple elts kk tpos) (IteT K a) [e, it] e (fun i h => (∃ old, IsEnum h e it ((i : Nat) : Int) old) ∧ h.IsTupleIter it a i ∧ e ≠ it) where
  mem := by simp
  obj := fun i h st b hb => by
    obtain ⟨⟨old, he⟩, ⟨o, ho, hc, hd⟩, _⟩ := st
    have e' : b = e ∨ b = it := by simpa using hb
    rcases e' with z | z
    · rw [z]; exact ⟨_, he, fun v q => nomatch q⟩
    · rw [z]; exact ⟨o, ho, fun v q => by rw [hd] at q; cases q⟩
  keep := fun i h h' st k => let ⟨⟨old, he⟩, hi, hne⟩ := st; ⟨⟨old, k e (by simp) _ he⟩, hi.at fun o q => k it (by simp) o q, hne⟩
  item := by
    intro X hP hw hK hc i pins s σ H E I hf st hg
    subst hP hw hK
    obtain ⟨⟨old, he⟩, hit, hne⟩ := st
    obtain ⟨xs, x, hq, hx⟩ := hg
    obtain ⟨its, rv, p, hz⟩ := I.tuple hq
    obtain ⟨u, hu, ru⟩ := rv.get hx
    have hel : e < s.heap.objs.size := Heap.lt_size he
    have hil : it < s.heap.objs.size := by obtain ⟨_, q, _⟩ := hit; exact Heap.lt_size q
    have D := Draws.tuple (prog := X.prog) (w := X.w) (A := X.A.in1) (I.ok.hd hc) it a hat its.toArray
    have hlt : i < its.toArray.size := by
      have := (List.getElem?_eq_some_iff.mp hu).1
      simpa using this
    refine wpAny_pyNext_enum_itemD D he ⟨hit, p⟩ hlt hne (by simp only [List.mem_cons, List.not_mem_nil, or_false, not_or]; exact ⟨hne, fun z => hae z.symm⟩) fun x' h' tk hPx ho hit' hT hsz hk => ?_
    have ex' : x' = u := by
      have z : its.toArray[i]? = some u := by simpa using hu
      rw [z] at hPx
      exact (Option.some.inj hPx).symm
    subst ex'
    refine ⟨_, rfl, wpAny_letOwnedTupleGo_enum (s := { s with heap := h', toks := tk + 1 }) ho fun h'' he' sb => ?_⟩
    have hT2 : h''.get? s.heap.objs.size = some { cls := .type "tuple", data := .seq #[.int i tk, x'] } := (sb.2 _ (Nat.ne_of_gt hel)).trans hT
    have new : ObjOk X.prog X.w (upd H s.heap.objs.size (.tup [.int (i : Nat), x])) h'' s.heap.objs.size (.tup [.int (i : Nat), x]) :=
      ⟨by show 2 ≤ sizeLine; decide, [.int i tk, x'], .cons ⟨_, rfl⟩ (.cons ru .nil), ⟨_, hT2, rfl, _, rfl⟩⟩
    have I1 : Inv X pins σ (upd H s.heap.objs.size (.tup [.int (i : Nat), x])) { s with heap := h'', toks := tk + 1 } :=
      I.turnedNew (ch := [e, it]) (fun b ob hb q => (sb.2 b (fun z => hb (by simp [z]))).trans (hk b ob (fun z => hb (by simp [z])) (fun z => hb (by simp [z])) q)) hf (Nat.le_refl _) new
    refine ⟨.ref s.heap.objs.size, _, I1, rfl, ⟨_, x, rfl, I.hok.fresh (Nat.le_refl _), rfl, fun ys hy => by rw [I.tuple_inj hy hq]; exact hx⟩, ⟨⟨x', ?_⟩, hit'.1.at fun o q => (sb.2 it (Ne.symm hne)).trans q, hne⟩, fun b hb => ?_⟩
    · have e1 : ((i + 1 : Nat) : Int) = (i : Int) + 1 := by omega
      rw [e1]; exact he'
    · have hb' : b < s.heap.objs.size := by
        have e' : b = e ∨ b = it := by simpa using hb
        rcases e' with z | z
        · rw [z]; exact hel
        · rw [z]; exact hil
      rw [upd_ne (Nat.ne_of_lt hb')]
      exact (hf b hb).1
  done := by
    intro X hP hw hK hc i pins s σ H E I hf st hg
    subst hP hw hK
    obtain ⟨⟨old, he⟩, hit, hne⟩ := st
    obtain ⟨xs, hq, hx⟩ := hg
    obtain ⟨its, rv, p, hz⟩ := I.tuple hq
    obtain ⟨f0, f1, f2, f3, f4, f5⟩ := hf it (by simp)
    have hl := rv.length
    have hx' : its.toArray[i]? = none := by simp; omega
    have hT : s.TypeIs (.ref e) "enumerate" := ⟨_, he, rfl⟩
    have hh : X.A.in1.handled = none := I.ok.hd hc
    have key : ∀ {Q : Option Value → Shared → Prop}, (∀ h', Heap.ExtBut it s.heap h' → Q none { s with heap := h' }) → wpAny (model X.prog X.w) X.A (pyNext (.ref e)) Q E s := fun {Q} hQ => by
      unfold pyNext
      refine wpAny_bind (wpAny_attempt (wpAny_callSpecial?_slot (name := Str.ofString "__next__") hT PySem.F.slot_enumerate_next
        (wpAny_call_entry PySem.F.slot_enumerate_next hT PySem.F.entry_enumerate_next ?_ (PySem.F.args_enumerate_next_1 _))))
      show wpAny _ _ (field (.ref e) 2 >>= _) _ _ _
      refine wpAny_bind (wpAny_field he rfl (x := .ref it) rfl ?_)
      refine wpAny_bind (wpAny_nextOf_tuple_end hh hit p hx' fun h' x he' hx' => ?_)
      obtain ⟨o, ho, hc⟩ := hx'
      refine wpAny_bind (wpAny_isInstance (T := "StopIteration") (b := true) ⟨o, ho, hc⟩ isSubtype_stop ?_)
      exact wpAny_pure (hQ _ he')
    exact key fun h' eb => ⟨rfl, I.turned (t' := s.toks) (fun b o hb q => eb b o hb q) f0 f1 f3 f4 f5⟩
  self := fun A i s Q E st h => let ⟨⟨_, he⟩, _⟩ := st; wpAny_pyIter_enum he h
def iEnumA (K : PySem.W.Frag) (ta : TA) : TI := fun σ H R => ta σ H fun vs H1 => ∃ a xs, vs = [.ref a] ∧ ((SqL K H1 a xs ∧ R (Ite K a) H1) ∨ (SqT K H1 a xs ∧ R (IteT K a) H1))
theorem pi_enumA {X : Cx} {e : Expr} {ta : TA} {p pos tpos : Pos} {elts : List Expr} {kk : Nat} (hm : X.mg "enumerate" = none) (ha : PA X [e] ta) (hg : Gl X "enumerate" := by rfl) (hs : starEach [e] X.env = [(false, eval e X.env)] := by rfl) :
    PI X (.Tuple elts kk tpos) (.Call (.Name "enumerate" p) [e] [] pos) (iEnumA X.K ta) := by
  refine ⟨fun pins s σ H R I h => ?_⟩
  refine Call_ (ld_blt I hg hm boot_enumerate (PyProof.Rows.callWith_type1 (thn (ha.run pos pins s σ H _ I h) fun us s1 ⟨vs, H1, I1, r1, q1⟩ => ?_) hs rfl))
  obtain ⟨a, xs, ex, q⟩ := q1
  subst ex
  cases r1 with
  | cons r rr =>
    cases rr
    cases r
    have fp : ∀ (h' : Heap) (I2 : Inv X pins σ H1 { s1 with heap := h' }), ∀ b ∈ [s1.heap.objs.size + 1, s1.heap.objs.size], FpOk X pins H1 b := fun h' I2 b hb => by
      have e' : b = s1.heap.objs.size + 1 ∨ b = s1.heap.objs.size := by simpa using hb
      have hle : s1.heap.objs.size ≤ b := by
        rcases e' with z | z
        · rw [z]; exact Nat.le_add_right _ _
        · rw [z]; exact Nat.le_refl _
      exact I1.fpOk hle (I1.hok.fresh hle)
    rcases q with ⟨hq, q⟩ | ⟨hq, q⟩
    · obtain ⟨its, rv, p', hz⟩ := I1.list hq
      refine call_enumerate_list p'.isList fun h' he hit hsz hk => wpAny_pyIter_enum he ?_
      have I2 : Inv X pins σ H1 { s1 with heap := h' } := I1.kept (t' := s1.toks) hk
      exact ⟨s1.heap.objs.size + 1, [s1.heap.objs.size + 1, s1.heap.objs.size], _, _, H1, rfl, I2, turn_enum a (s1.heap.objs.size + 1) s1.heap.objs.size, ⟨⟨.none, he⟩, hit, Nat.succ_ne_self _⟩, fp h' I2, q⟩
    · obtain ⟨its, rv, p', hz⟩ := I1.tuple hq
      have hlt : a < s1.heap.objs.size := p'.lt
      refine enum_begins1 (begins_tuple a its.toArray) (show s1.heap.IsTuple a its.toArray from p') fun h' he hit hsz hk => wpAny_pyIter_enum he ?_
      have I2 : Inv X pins σ H1 { s1 with heap := h' } := I1.kept (t' := s1.toks) hk
      exact ⟨s1.heap.objs.size + 1, [s1.heap.objs.size + 1, s1.heap.objs.size], _, _, H1, rfl, I2, turn_enumT a (s1.heap.objs.size + 1) s1.heap.objs.size (Nat.ne_of_lt hlt) (Nat.ne_of_lt (Nat.lt_succ_of_lt hlt)), ⟨⟨.none, he⟩, ⟨_, hit, rfl, rfl⟩, Nat.succ_ne_self _⟩, fp h' I2, q⟩
end TkL


namespace TkL
open PySem PySem.Spec PySem.Calls PyProof.Rows L2

def Ex (H H' : Hp) : Prop := ∀ a o, H a = some o → H' a = some o
theorem Ex.refl (H : Hp) : Ex H H := fun _ _ h => h
theorem Ex.trans {H H1 H2 : Hp} (a : Ex H H1) (b : Ex H1 H2) : Ex H H2 := fun x o h => b x o (a x o h)
theorem Ex.new {H : Hp} {p : Addr} {o : HO} (h : H p = none) : Ex H (upd H p o) := fun a u e => by
  rw [upd_ne (ne_of_none e h)]
  exact e
theorem Ex.mut {H H' : Hp} {p : Addr} {o : HO} (e : Ex H H') (h : H p = none) : Ex H (upd H' p o) := fun a u ha => by
  rw [upd_ne (ne_of_none ha h)]
  exact e a u ha
theorem Ex.back {H H' : Hp} {p : Addr} (e : Ex H H') (h : H' p = none) : H p = none := by
  cases h1 : H p with
  | none => rfl
  | some o =>
    rw [e p o h1] at h
    cases h
theorem Ex.sqL {K : PySem.W.Frag} {H H' : Hp} {a : Addr} {xs : List V} (e : Ex H H') (h : SqL K H a xs) : SqL K H' a xs := by
  rcases h with (h | ⟨o, h⟩) | h
  · exact .inl (.inl (e _ _ h))
  · exact .inl (.inr ⟨o, e _ _ h⟩)
  · exact .inr h
theorem Ex.sqT {K : PySem.W.Frag} {H H' : Hp} {a : Addr} {xs : List V} (e : Ex H H') (h : SqT K H a xs) : SqT K H' a xs := by
  rcases h with (h | ⟨o, h⟩) | h
  · exact .inl (.inl (e _ _ h))
  · exact .inl (.inr ⟨o, e _ _ h⟩)
  · exact .inr h
theorem lOf {K : PySem.W.Frag} {H : Hp} {a : Addr} {xs : List V} (h : H a = some (.lst xs)) : SqL K H a xs := .inl (.inl h)
theorem tOf {K : PySem.W.Frag} {H : Hp} {a : Addr} {xs : List V} (h : H a = some (.tup xs)) : SqT K H a xs := .inl (.inl h)
theorem sz_of {n : Nat} (h : n ≤ 1000000) : n ≤ sizeLine := Nat.le_trans h (by decide)
theorem sz_lt {n : Nat} (h : n < 1000000) : n < sizeLine := Nat.lt_of_lt_of_le h (by decide)

section
variable {σ : L2.St} {H : Hp} {Q : VK} {D : Ends} {t u : TS} {ta tb tc te : TE} {tt tu : TT} {A : TA} {v x y : V} {i : Nat} {K : PySem.W.Frag}
theorem x_seq (h : t { D with nx := u D } σ H) : tSeq t u D σ H := h
theorem x_next (h : D.nx σ H) : tNext D σ H := h
theorem x_break (h : D.bk σ H) : tBreak D σ H := h
theorem x_cont (h : D.ct σ H) : tCont D σ H := h
theorem x_drop (h : te σ H fun _ H1 => D.nx σ H1) : tDrop te D σ H := h
theorem x_ret (h : te σ H D.rt) : tRet te D σ H := h
theorem x_retN (h : D.rt .non H) : tRetN D σ H := h
theorem x_ifS (h : tt σ H fun b H1 => if b = true then t D σ H1 else u D σ H1) : tIfS tt t u D σ H := h
theorem x_asg {g : TG} (h : te σ H fun x H1 => g x σ H1 D.nx) : tAsg te g D σ H := h
theorem x_name {Q : L2.St → Hp → Prop} (h : Q (σ.set i (some v)) H) : gName i v σ H Q := h
theorem x_var (e : σ[i]? = some (some v)) (h : Q v H) : tVar i σ H Q := ⟨v, e, h⟩
theorem x_c (h : Q v H) : tC v σ H Q := h
theorem x_op {r : R2} (h : ta σ H fun x H1 => tb σ H1 fun y H2 => r x y H2 Q) : tOp r ta tb σ H Q := h
theorem x_un {r : V → Hp → VK → Prop} (h : ta σ H fun x H1 => r x H1 Q) : tUn r ta σ H Q := h
theorem x_rI0 {g : Int → Int → V} {a b : Int} (h : Q (g a b) H) : rI0 g (.int a) (.int b) H Q := ⟨a, b, rfl, rfl, h⟩
theorem x_rI {C : Int → Int → Prop} {g : Int → Int → V} {a b : Int} (c : C a b) (h : Q (g a b) H) : rI C g (.int a) (.int b) H Q := ⟨a, b, rfl, rfl, c, h⟩
theorem x_rU {g : Int → V} {a : Int} (h : Q (g a) H) : rU g (.int a) H Q := ⟨a, rfl, h⟩
theorem x_rEq (s : scal x y = true) (h : Q (.bl (decide (x = y))) H) : rEq x y H Q := ⟨s, h⟩
theorem x_rNe (s : scal x y = true) (h : Q (.bl (!decide (x = y))) H) : rNe x y H Q := ⟨s, h⟩
theorem x_nil {Q : List V → Hp → Prop} (h : Q [] H) : tNil σ H Q := h
theorem x_cons {Q : List V → Hp → Prop} (h : te σ H fun x H1 => A σ H1 fun xs H2 => Q (x :: xs) H2) : tCons te A σ H Q := h
theorem x_tup (h : A σ H fun xs H1 => xs.length ≤ sizeLine ∧ ∀ p, H1 p = none → Q (.ref p) (upd H1 p (.tup xs))) : tTup A σ H Q := h
theorem x_lst (h : A σ H fun xs H1 => xs.length ≤ sizeLine ∧ ∀ p, H1 p = none → Q (.ref p) (upd H1 p (.lst xs))) : tLst A σ H Q := h
theorem x_new {o : HO} (h : ∀ p H', Ex H H' → H p = none → H' p = some o → Q (.ref p) H') : ∀ p, H p = none → Q (.ref p) (upd H p o) := fun p hp => h p _ (Ex.new hp) hp upd_same
theorem x_notV (h : ta σ H fun x H1 => ∃ c, x = .bl c ∧ Q (.bl (!c)) H1) : tNotV ta σ H Q := h
theorem x_andV (h : ta σ H fun x H1 => ∃ c, x = .bl c ∧ if c = true then tb σ H1 Q else Q (.bl false) H1) : tAndV ta tb σ H Q := h
theorem x_orV (h : ta σ H fun x H1 => ∃ c, x = .bl c ∧ if c = true then Q (.bl true) H1 else tb σ H1 Q) : tOrV ta tb σ H Q := h
theorem x_exB {P : Bool → Prop} {c : Bool} (h : P c) : ∃ k, V.bl c = .bl k ∧ P k := ⟨c, rfl, h⟩
theorem x_if (h : tt σ H fun c H1 => if c = true then ta σ H1 Q else tb σ H1 Q) : tIf tt ta tb σ H Q := h
theorem x_B {Q : Bool → Hp → Prop} (h : te σ H fun x H1 => ∃ c, x = .bl c ∧ Q c H1) : tB te σ H Q := h
theorem x_test {Q : Bool → Hp → Prop} (h : te σ H fun x H1 => ∃ c, x = .bl c ∧ Q c H1) : tTest te σ H Q := h
theorem x_and {Q : Bool → Hp → Prop} (h : tt σ H fun c H1 => if c = true then tu σ H1 Q else Q false H1) : tAnd tt tu σ H Q := h
theorem x_or {Q : Bool → Hp → Prop} (h : tt σ H fun c H1 => if c = true then Q true H1 else tu σ H1 Q) : tOr tt tu σ H Q := h
theorem x_not {Q : Bool → Hp → Prop} (h : tt σ H fun c H1 => Q (!c) H1) : tNot tt σ H Q := h
theorem x_chain {r r' : R2} (h : ta σ H fun x H1 => tb σ H1 fun y H2 => r x y H2 fun z H3 => ∃ k, z = .bl k ∧ (if k = true then tc σ H3 fun w' H4 => r' y w' H4 Q else Q (.bl false) H3)) : tChain r r' ta tb tc σ H Q := h
theorem x_cb {r : List V → Hp → VK → Prop} (h : A σ H fun vs H1 => r vs H1 Q) : tCB r A σ H Q := h
theorem x_def {sp : Sp} {E : XK} (h : A σ H fun vs H1 => sp vs H1 Q E) : tDef sp E A σ H Q := h
theorem x_met {C : Addr} {m : Str} {sp : Sp} {E : XK} (h : ta σ H fun x H1 => ∃ a dx fs, x = .ref a ∧ H1 a = some (.ins C dx fs) ∧ fs.lookup m = none ∧ A σ H1 fun vs H2 => sp (x :: vs) H2 Q E) : tMet C m sp E ta A σ H Q := h
theorem x_prp {C : Addr} {sp : Sp} {E : XK} (h : ta σ H fun x H1 => ∃ a dx fs, x = .ref a ∧ H1 a = some (.ins C dx fs) ∧ sp [.ref a] H1 Q E) : tPrp C sp E ta σ H Q := h
theorem x_fld {f : Str} (h : ta σ H fun x H1 => ∃ a C dx fs v, x = .ref a ∧ H1 a = some (.ins C dx fs) ∧ Cls K C ∧ NoAttr K C f ∧ fs.lookup f = some v ∧ Q v H1) : tFld K ta f σ H Q := h
theorem x_sfld {f : Str} {tv : TE} (h : tv σ H fun y H1 => ta σ H1 fun x H2 => ∃ a C dx fs, x = .ref a ∧ H2 a = some (.ins C dx fs) ∧ Cls K C ∧ NoAttr K C f ∧ fs.length < 1000 ∧ D.nx σ (upd H2 a (.ins C dx (putF f y fs)))) : sFld K ta tv f D σ H := h
theorem x_bm {T : String} {r : V → List V → Hp → VK → Prop} (h : te σ H fun x H1 => tyV K T x H1 ∧ A σ H1 fun xs H2 => r x xs H2 Q) : tBM K T r te A σ H Q := h
theorem x_bm0 {T : String} {r : V → List V → Hp → VK → Prop} (h : te σ H fun x H1 => tyV K T x H1 ∧ r x [] H1 Q) : tBM0 K T r te σ H Q := h
theorem x_sl {r : V → Option Int → Option Int → Hp → VK → Prop} {tl th : TO} (h : te σ H fun x H1 => tl σ H1 fun l H2 => th σ H2 fun u H3 => r x l u H3 Q) : L2.tSl r te tl th σ H Q := h
theorem x_noPart {Q : Option Int → Hp → Prop} (h : Q none H) : tNoPart σ H Q := h
theorem x_part {Q : Option Int → Hp → Prop} (h : te σ H fun x H1 => ∃ i, x = .int i ∧ Q (some i) H1) : tPart te σ H Q := h
theorem x_exI {P : Int → Prop} {c : Int} (h : P c) : ∃ k, V.int c = .int k ∧ P k := ⟨c, rfl, h⟩
theorem x_for {wi : TI} {g : TG} (h : wi σ H fun J H1 => ∃ W : Nat → Nat → L2.St → Hp → Prop, (∃ m, W 0 m σ H1) ∧ ∀ i m σ H, W i m σ H → (J.stop i H ∧ D.nx σ H) ∨ (J.go i H ∧ ∃ N : L2.St → Hp → Prop, (∀ σ' H', N σ' H' → ∃ m', m' < m ∧ W (i + 1) m' σ' H') ∧ ∀ x H', J.yld i H x H' → g x σ H' fun σ2 H2 => t { D with nx := N, ct := N, bk := D.nx } σ2 H2)) : tFor wi g t D σ H := h
theorem x_par {j : Nat} (h : A σ H fun vs H1 => ∃ v w, vs = [v, w] ∧ D.nx ((σ.set i (some v)).set j (some w)) H1) : tPar i j A D σ H := h
theorem x_parEx {P : V → V → Prop} {a b : V} (h : P a b) : ∃ v w, [a, b] = [v, w] ∧ P v w := ⟨a, b, rfl, h⟩
theorem x_dnew (h : ∀ p, H p = none → Q (.ref p) (upd H p (.dK []))) : tDNewK σ H Q := h
theorem x_ixL {p : Addr} {xs : List V} {i : Int} (s : SqL K H p xs) (e : atI xs i = some v) (h : Q v H) : rIxL K (.ref p) (.int i) H Q := ⟨p, xs, i, v, rfl, rfl, s, e, h⟩
theorem x_ixT {p : Addr} {xs : List V} {i : Int} (s : SqT K H p xs) (e : atI xs i = some v) (h : Q v H) : rIxT K (.ref p) (.int i) H Q := ⟨p, xs, i, v, rfl, rfl, s, e, h⟩
theorem x_ite2 {c A B : Prop} [Decidable c] (h1 : c → A) (h2 : ¬ c → B) : if c then A else B := ite2 h1 h2
theorem x_iteD {c : Prop} [Decidable c] {A B : Prop} (h1 : c → A) (h2 : ¬ c → B) : if decide c = true then A else B := ite2 (fun h => h1 (of_decide_eq_true h)) (fun h => h2 fun z => h (decide_eq_true z))
theorem x_iteDN {c : Prop} [Decidable c] {A B : Prop} (h1 : ¬ c → A) (h2 : c → B) : if (!decide c) = true then A else B := by
  by_cases h : c
  · rw [decide_eq_true h]; exact iteF (h2 h)
  · rw [decide_eq_false h]; exact iteT (h1 h)
end
end TkL


namespace TkL
open PySem PySem.Spec PySem.Calls PyProof.Rows L2

structure Wk (J : It) (H1 : Hp) (xs : List V) : Prop where
  go : ∀ H i, Ex H1 H → i < xs.length → J.go i H
  yl : ∀ H i x H', Ex H1 H → i < xs.length → J.yld i H x H' → H' = H ∧ xs[i]? = some x
  st : ∀ H i, Ex H1 H → xs.length ≤ i → J.stop i H
theorem Wk.list {K : PySem.W.Frag} {H : Hp} {a : Addr} {xs : List V} (h : SqL K H a xs) : Wk (Itl K a) H xs :=
  ⟨fun H' i e hi => ⟨xs, xs[i], e.sqL h, by simp [hi]⟩, fun H' i x H'' e hi y => ⟨y.1, y.2 xs (e.sqL h)⟩, fun H' i e hi => ⟨xs, e.sqL h, hi⟩⟩
theorem Wk.tup {K : PySem.W.Frag} {H : Hp} {a : Addr} {xs : List V} (h : SqT K H a xs) : Wk (Itt K a) H xs :=
  ⟨fun H' i e hi => ⟨xs, xs[i], e.sqT h, by simp [hi]⟩, fun H' i x H'' e hi y => ⟨y.1, y.2 xs (e.sqT h)⟩, fun H' i e hi => ⟨xs, e.sqT h, hi⟩⟩
def rngV (lo : Int) (n : Nat) : List V := (List.range n).map fun (k : Nat) => V.int (lo + (k : Int))
theorem rngV_length {lo : Int} {n : Nat} : (rngV lo n).length = n := by unfold rngV; simp
theorem rngV_get {lo : Int} {n i : Nat} (h : i < n) : (rngV lo n)[i]? = some (V.int (lo + (i : Int))) := by
  unfold rngV; simp [List.getElem?_range h]
theorem Wk.rng {H : Hp} {lo : Int} {n : Nat} : Wk (Itr lo n) H (rngV lo n) :=
  ⟨fun H' i _ hi => by rw [rngV_length] at hi; exact hi, fun H' i x H'' _ hi y => by rw [rngV_length] at hi; rw [rngV_get hi, y.2]; exact ⟨y.1, rfl⟩, fun H' i _ hi => by rw [rngV_length] at hi; exact hi⟩
def rngC (lo c : Int) (n : Nat) : List V := (List.range n).map fun (k : Nat) => V.int (lo + (k : Int) * c)
theorem rngC_length {lo c : Int} {n : Nat} : (rngC lo c n).length = n := by unfold rngC; simp
theorem rngC_get {lo c : Int} {n i : Nat} (h : i < n) : (rngC lo c n)[i]? = some (V.int (lo + (i : Int) * c)) := by
  unfold rngC; simp [List.getElem?_range h]
theorem Wk.rngc {H : Hp} {lo c : Int} {n : Nat} : Wk (Itc lo c n) H (rngC lo c n) :=
  ⟨fun H' i _ hi => by rw [rngC_length] at hi; exact hi, fun H' i x H'' _ hi y => by rw [rngC_length] at hi; rw [rngC_get hi, y.2]; exact ⟨y.1, rfl⟩, fun H' i _ hi => by rw [rngC_length] at hi; exact hi⟩
theorem Wk.keys {H : Hp} {d : Addr} {o : Obj} {kvs : List (Key × V)} (h : H d = some (.frz o (.dK kvs))) : Wk (Itk d o kvs) H (kvs.map fun p => kV p.1) :=
  ⟨fun H' i e hi => ⟨e _ _ h, by simpa using hi⟩, fun H' i x H'' e hi ⟨y, k, v, q, ex⟩ => ⟨y, by rw [List.getElem?_map, q, ex]; rfl⟩, fun H' i e hi => ⟨e _ _ h, by simpa using hi⟩⟩

theorem lt_of_get {α : Type} {xs : List α} {i : Nat} {x : α} (h : xs[i]? = some x) : i < xs.length := (List.getElem?_eq_some_iff.mp h).1
theorem take_succ_of {α : Type} {xs : List α} {i : Nat} {x : α} (h : xs[i]? = some x) : xs.take (i + 1) = xs.take i ++ [x] := by
  rw [List.take_add_one, h]; rfl

theorem for_wk {J : It} {H0 H1 : Hp} {xs : List V} (W : Wk J H0 xs) {g : TG} {tb : TS} {D : Ends} {σ : L2.St} (Pv : Nat → L2.St → Hp → Prop) (h0 : Pv 0 σ H1) (he : ∀ i σ H, Pv i σ H → Ex H0 H)
    (hs : ∀ i x σ H, xs[i]? = some x → Pv i σ H → g x σ H fun σ2 H2 => tb { D with nx := Pv (i + 1), ct := Pv (i + 1), bk := D.nx } σ2 H2) (hd : ∀ σ H, Pv xs.length σ H → D.nx σ H) :
    ∃ W : Nat → Nat → L2.St → Hp → Prop, (∃ m, W 0 m σ H1) ∧ ∀ i m σ H, W i m σ H →
      (J.stop i H ∧ D.nx σ H) ∨ (J.go i H ∧ ∃ N : L2.St → Hp → Prop, (∀ σ' H', N σ' H' → ∃ m', m' < m ∧ W (i + 1) m' σ' H') ∧ ∀ x H', J.yld i H x H' → g x σ H' fun σ2 H2 => tb { D with nx := N, ct := N, bk := D.nx } σ2 H2) := by
  refine ⟨fun i m σ H => m = xs.length - i ∧ i ≤ xs.length ∧ Pv i σ H, ⟨xs.length, by simp, Nat.zero_le _, h0⟩, ?_⟩
  rintro i m σ H ⟨rfl, hi, p⟩
  have e := he _ _ _ p
  by_cases hlt : i < xs.length
  · refine .inr ⟨W.go H i e hlt, Pv (i + 1), fun σ' H' p' => ⟨xs.length - (i + 1), by omega, rfl, hlt, p'⟩, fun x H' y => ?_⟩
    obtain ⟨e1, e2⟩ := W.yl H i x H' e hlt y
    subst e1
    exact hs i x σ _ e2 p
  · have : i = xs.length := by omega
    subst this
    exact .inl ⟨W.st H _ e (Nat.le_refl _), hd _ _ p⟩
theorem for_enT {K : PySem.W.Frag} {H0 H1 : Hp} {a : Addr} {xs : List V} (h : SqT K H0 a xs) {p q : Nat} {tb : TS} {D : Ends} {σ : L2.St} (Pv : Nat → L2.St → Hp → Prop) (h0 : Pv 0 σ H1) (he : ∀ i σ H, Pv i σ H → Ex H0 H)
    (hs : ∀ i x σ H H', xs[i]? = some x → Pv i σ H → Ex H H' → tb { D with nx := Pv (i + 1), ct := Pv (i + 1), bk := D.nx } ((σ.set p (some (.int (i : Nat)))).set q (some x)) H') (hd : ∀ σ H, Pv xs.length σ H → D.nx σ H) :
    ∃ W : Nat → Nat → L2.St → Hp → Prop, (∃ m, W 0 m σ H1) ∧ ∀ i m σ H, W i m σ H →
      ((IteT K a).stop i H ∧ D.nx σ H) ∨ ((IteT K a).go i H ∧ ∃ N : L2.St → Hp → Prop, (∀ σ' H', N σ' H' → ∃ m', m' < m ∧ W (i + 1) m' σ' H') ∧ ∀ x H', (IteT K a).yld i H x H' → gTup K 2 (gCons (gName p) (gCons (gName q) gNil)) x σ H' fun σ2 H2 => tb { D with nx := N, ct := N, bk := D.nx } σ2 H2) := by
  refine ⟨fun i m σ H => m = xs.length - i ∧ i ≤ xs.length ∧ Pv i σ H, ⟨xs.length, by simp, Nat.zero_le _, h0⟩, ?_⟩
  rintro i m σ H ⟨rfl, hi, pv⟩
  have e := he _ _ _ pv
  by_cases hlt : i < xs.length
  · refine .inr ⟨⟨xs, xs[i], e.sqT h, by simp [hlt]⟩, Pv (i + 1), fun σ' H' p' => ⟨xs.length - (i + 1), by omega, rfl, hlt, p'⟩, fun x H' y => ?_⟩
    obtain ⟨T, z, rfl, hT, rfl, hz⟩ := y
    exact ⟨T, _, rfl, tOf upd_same, rfl, _, _, rfl, _, _, rfl, rfl, hs i z σ H _ (hz xs (e.sqT h)) pv (Ex.new hT)⟩
  · have : i = xs.length := by omega
    subst this
    exact .inl ⟨⟨xs, e.sqT h, Nat.le_refl _⟩, hd _ _ pv⟩
theorem for_enL {K : PySem.W.Frag} {H0 H1 : Hp} {a : Addr} {xs : List V} (h : SqL K H0 a xs) {p q : Nat} {tb : TS} {D : Ends} {σ : L2.St} (Pv : Nat → L2.St → Hp → Prop) (h0 : Pv 0 σ H1) (he : ∀ i σ H, Pv i σ H → Ex H0 H)
    (hs : ∀ i x σ H H', xs[i]? = some x → Pv i σ H → Ex H H' → tb { D with nx := Pv (i + 1), ct := Pv (i + 1), bk := D.nx } ((σ.set p (some (.int (i : Nat)))).set q (some x)) H') (hd : ∀ σ H, Pv xs.length σ H → D.nx σ H) :
    ∃ W : Nat → Nat → L2.St → Hp → Prop, (∃ m, W 0 m σ H1) ∧ ∀ i m σ H, W i m σ H →
      ((Ite K a).stop i H ∧ D.nx σ H) ∨ ((Ite K a).go i H ∧ ∃ N : L2.St → Hp → Prop, (∀ σ' H', N σ' H' → ∃ m', m' < m ∧ W (i + 1) m' σ' H') ∧ ∀ x H', (Ite K a).yld i H x H' → gTup K 2 (gCons (gName p) (gCons (gName q) gNil)) x σ H' fun σ2 H2 => tb { D with nx := N, ct := N, bk := D.nx } σ2 H2) := by
  refine ⟨fun i m σ H => m = xs.length - i ∧ i ≤ xs.length ∧ Pv i σ H, ⟨xs.length, by simp, Nat.zero_le _, h0⟩, ?_⟩
  rintro i m σ H ⟨rfl, hi, pv⟩
  have e := he _ _ _ pv
  by_cases hlt : i < xs.length
  · refine .inr ⟨⟨xs, xs[i], e.sqL h, by simp [hlt]⟩, Pv (i + 1), fun σ' H' p' => ⟨xs.length - (i + 1), by omega, rfl, hlt, p'⟩, fun x H' y => ?_⟩
    obtain ⟨T, z, rfl, hT, rfl, hz⟩ := y
    exact ⟨T, _, rfl, tOf upd_same, rfl, _, _, rfl, _, _, rfl, rfl, hs i z σ H _ (hz xs (e.sqL h)) pv (Ex.new hT)⟩
  · have : i = xs.length := by omega
    subst this
    exact .inl ⟨⟨xs, e.sqL h, Nat.le_refl _⟩, hd _ _ pv⟩
theorem x_while {tc : TT} {tb : TS} {D : Ends} {σ : L2.St} {H : Hp} (Pv : Nat → L2.St → Hp → Prop) (m : Nat) (h0 : Pv m σ H)
    (hs : ∀ m σ H, Pv m σ H → tc σ H fun b H1 => if b = true then ∃ N : L2.St → Hp → Prop, (∀ σ' H', N σ' H' → ∃ m', m' < m ∧ Pv m' σ' H') ∧ tb { D with nx := N, ct := N, bk := D.nx } σ H1 else D.nx σ H1) : tWhile tc tb D σ H :=
  ⟨Pv, ⟨m, h0⟩, fun m σ H p => hs m σ H p⟩
theorem x_whN {tb : TS} {D : Ends} {σ : L2.St} {H : Hp} {Pv : Nat → L2.St → Hp → Prop} {m : Nat} (h : tb { D with nx := fun σ' H' => ∃ m', m' < m ∧ Pv m' σ' H', ct := fun σ' H' => ∃ m', m' < m ∧ Pv m' σ' H', bk := D.nx } σ H) :
    ∃ N : L2.St → Hp → Prop, (∀ σ' H', N σ' H' → ∃ m', m' < m ∧ Pv m' σ' H') ∧ tb { D with nx := N, ct := N, bk := D.nx } σ H := ⟨_, fun _ _ h => h, h⟩

theorem wipe_set1 (σ : L2.St) (j : Nat) (v : Option V) : wipe ((wipe σ [j]).set j v) [j] = wipe σ [j] := by
  show ((σ.set j none).set j v).set j none = σ.set j none
  rw [List.set_set, List.set_set]
theorem wipe_set2 (σ : L2.St) (j k : Nat) (v w : Option V) : wipe (((wipe σ [j, k]).set j v).set k w) [j, k] = wipe σ [j, k] := by
  show (((((σ.set k none).set j none).set j v).set k w).set k none).set j none = (σ.set k none).set j none
  apply List.ext_getElem?
  intro i
  simp only [List.getElem?_set, List.length_set]
  by_cases h1 : j = i <;> by_cases h2 : k = i <;> simp [h1, h2]
theorem lcf {J : It} {H1 : Hp} {xs : List V} (W : Wk J H1 xs) {j : Nat} {tt : TT} {te : TE} {σ : L2.St} {Q : Addr → Hp → Prop} (p : V → Bool) (f : V → V) (hz : xs.length ≤ 1000000)
    (ht : ∀ (i : Nat) x H' (Qb : Bool → Hp → Prop), xs[i]? = some x → Ex H1 H' → Qb (p x) H' → tt ((wipe σ [j]).set j (some x)) H' Qb)
    (hv : ∀ (i : Nat) x H' (Qv : VK), xs[i]? = some x → p x = true → Ex H1 H' → Qv (f x) H' → te ((wipe σ [j]).set j (some x)) H' Qv)
    (hd : ∀ D H', Ex H1 H' → H1 D = none → H' D = some (.lst ((xs.filter p).map f)) → Q D H') :
    ∀ D, H1 D = none → ∃ W : Nat → Nat → Hp → Prop, (∃ m, W 0 m (upd H1 D (.lst []))) ∧ ∀ i m H, W i m H →
      (J.stop i H ∧ Q D H) ∨ (J.go i H ∧ ∃ Nx : Hp → Prop, (∀ H', Nx H' → ∃ m', m' < m ∧ W (i + 1) m' H') ∧ ∀ x H', J.yld i H x H' → gName j x (wipe σ [j]) H' fun σ2 H2 => wipe σ2 [j] = wipe σ [j] ∧ tt σ2 H2 fun b H3 =>
        if b = true then te σ2 H3 fun y H4 => ∃ acc, H4 D = some (.lst acc) ∧ acc.length < sizeLine ∧ Nx (upd H4 D (.lst (acc ++ [y]))) else Nx H3) := by
  intro D hD
  refine ⟨fun i m H => m = xs.length - i ∧ i ≤ xs.length ∧ Ex H1 H ∧ H D = some (.lst (((xs.take i).filter p).map f)), ⟨_, rfl, Nat.zero_le _, Ex.new hD, upd_same⟩, ?_⟩
  rintro i m H ⟨rfl, hi, e, hl⟩
  by_cases hlt : i < xs.length
  · refine .inr ⟨W.go H i e hlt, fun H' => Ex H1 H' ∧ H' D = some (.lst (((xs.take (i + 1)).filter p).map f)), fun H' h => ⟨_, by omega, rfl, hlt, h⟩, fun x H' y => ?_⟩
    obtain ⟨rfl, hx⟩ := W.yl H i x H' e hlt y
    show wipe _ [j] = _ ∧ _
    refine ⟨wipe_set1 _ _ _, ht i x _ _ hx e ?_⟩
    cases hp : p x with
    | false =>
      rw [if_neg Bool.false_ne_true]
      refine ⟨e, ?_⟩
      rw [take_succ_of hx, List.filter_append]
      simp only [List.filter_cons, hp, List.filter_nil, List.append_nil, Bool.false_eq_true, if_false]
      exact hl
    | true =>
      rw [if_pos rfl]
      refine hv i x _ _ hx hp e ⟨_, hl, ?_, e.mut hD, ?_⟩
      · refine sz_lt ?_
        rw [List.length_map]
        refine Nat.lt_of_le_of_lt (List.length_filter_le _ _) ?_
        rw [List.length_take]
        omega
      · rw [upd_same, take_succ_of hx, List.filter_append, List.map_append]
        simp [List.filter_cons, hp]
  · have : i = xs.length := by omega
    subst this
    refine .inl ⟨W.st H _ e (Nat.le_refl _), hd D H e hD ?_⟩
    rw [List.take_length] at hl
    exact hl
theorem lcf_enT {K : PySem.W.Frag} {H1 : Hp} {a : Addr} {xs : List V} (hq : SqT K H1 a xs) {j k : Nat} {tt : TT} {te : TE} {σ : L2.St} {Q : Addr → Hp → Prop} (p : Nat → V → Bool) (f : Nat → V → V) (hz : xs.length ≤ 1000000)
    (ht : ∀ (i : Nat) x H' (Qb : Bool → Hp → Prop), xs[i]? = some x → Ex H1 H' → Qb (p i x) H' → tt (((wipe σ [j, k]).set j (some (.int (i : Nat)))).set k (some x)) H' Qb)
    (hv : ∀ (i : Nat) x H' (Qv : VK), xs[i]? = some x → p i x = true → Ex H1 H' → Qv (f i x) H' → te (((wipe σ [j, k]).set j (some (.int (i : Nat)))).set k (some x)) H' Qv)
    (hd : ∀ D H', Ex H1 H' → H1 D = none → H' D = some (.lst ((xs.zipIdx.filter fun q => p q.2 q.1).map fun q => f q.2 q.1)) → Q D H') :
    ∀ D, H1 D = none → ∃ W : Nat → Nat → Hp → Prop, (∃ m, W 0 m (upd H1 D (.lst []))) ∧ ∀ i m H, W i m H →
      ((IteT K a).stop i H ∧ Q D H) ∨ ((IteT K a).go i H ∧ ∃ Nx : Hp → Prop, (∀ H', Nx H' → ∃ m', m' < m ∧ W (i + 1) m' H') ∧ ∀ x H', (IteT K a).yld i H x H' → gTup K 2 (gCons (gName j) (gCons (gName k) gNil)) x (wipe σ [j, k]) H' fun σ2 H2 => wipe σ2 [j, k] = wipe σ [j, k] ∧ tt σ2 H2 fun b H3 =>
        if b = true then te σ2 H3 fun y H4 => ∃ acc, H4 D = some (.lst acc) ∧ acc.length < sizeLine ∧ Nx (upd H4 D (.lst (acc ++ [y]))) else Nx H3) := by
  intro D hD
  refine ⟨fun i m H => m = xs.length - i ∧ i ≤ xs.length ∧ Ex H1 H ∧ H D = some (.lst (((xs.zipIdx.take i).filter fun q => p q.2 q.1).map fun q => f q.2 q.1)), ⟨_, rfl, Nat.zero_le _, Ex.new hD, upd_same⟩, ?_⟩
  rintro i m H ⟨rfl, hi, e, hl⟩
  by_cases hlt : i < xs.length
  · refine .inr ⟨⟨xs, xs[i], e.sqT hq, by simp [hlt]⟩, fun H' => Ex H1 H' ∧ H' D = some (.lst (((xs.zipIdx.take (i + 1)).filter fun q => p q.2 q.1).map fun q => f q.2 q.1)), fun H' h => ⟨_, by omega, rfl, hlt, h⟩, fun x H' y => ?_⟩
    obtain ⟨T, z, rfl, hT, rfl, hx'⟩ := y
    have hx := hx' xs (e.sqT hq)
    have e2 : Ex H1 (upd H T (.tup [.int (i : Nat), z])) := e.trans (Ex.new hT)
    have hl2 : (upd H T (.tup [.int (i : Nat), z])) D = some (.lst (((xs.zipIdx.take i).filter fun q => p q.2 q.1).map fun q => f q.2 q.1)) := Ex.new hT _ _ hl
    have hz2 : xs.zipIdx[i]? = some (z, i) := by simp [List.getElem?_zipIdx, hx]
    refine ⟨T, _, rfl, tOf upd_same, rfl, _, _, rfl, _, _, rfl, rfl, wipe_set2 _ _ _ _ _, ht i z _ _ hx e2 ?_⟩
    cases hp : p i z with
    | false =>
      rw [if_neg Bool.false_ne_true]
      refine ⟨e2, ?_⟩
      rw [take_succ_of hz2, List.filter_append]
      simp only [List.filter_cons, hp, List.filter_nil, List.append_nil, Bool.false_eq_true, if_false]
      exact hl2
    | true =>
      rw [if_pos rfl]
      refine hv i z _ _ hx hp e2 ⟨_, hl2, ?_, e2.mut hD, ?_⟩
      · refine sz_lt ?_
        rw [List.length_map]
        refine Nat.lt_of_le_of_lt (List.length_filter_le _ _) ?_
        rw [List.length_take]
        omega
      · rw [upd_same, take_succ_of hz2, List.filter_append, List.map_append]
        simp [List.filter_cons, hp]
  · have : i = xs.length := by omega
    subst this
    refine .inl ⟨⟨xs, e.sqT hq, Nat.le_refl _⟩, hd D H e hD ?_⟩
    rw [List.take_of_length_le (by simp)] at hl
    exact hl
theorem lcf_enL {K : PySem.W.Frag} {H1 : Hp} {a : Addr} {xs : List V} (hq : SqL K H1 a xs) {j k : Nat} {tt : TT} {te : TE} {σ : L2.St} {Q : Addr → Hp → Prop} (p : Nat → V → Bool) (f : Nat → V → V) (hz : xs.length ≤ 1000000)
    (ht : ∀ (i : Nat) x H' (Qb : Bool → Hp → Prop), xs[i]? = some x → Ex H1 H' → Qb (p i x) H' → tt (((wipe σ [j, k]).set j (some (.int (i : Nat)))).set k (some x)) H' Qb)
    (hv : ∀ (i : Nat) x H' (Qv : VK), xs[i]? = some x → p i x = true → Ex H1 H' → Qv (f i x) H' → te (((wipe σ [j, k]).set j (some (.int (i : Nat)))).set k (some x)) H' Qv)
    (hd : ∀ D H', Ex H1 H' → H1 D = none → H' D = some (.lst ((xs.zipIdx.filter fun q => p q.2 q.1).map fun q => f q.2 q.1)) → Q D H') :
    ∀ D, H1 D = none → ∃ W : Nat → Nat → Hp → Prop, (∃ m, W 0 m (upd H1 D (.lst []))) ∧ ∀ i m H, W i m H →
      ((Ite K a).stop i H ∧ Q D H) ∨ ((Ite K a).go i H ∧ ∃ Nx : Hp → Prop, (∀ H', Nx H' → ∃ m', m' < m ∧ W (i + 1) m' H') ∧ ∀ x H', (Ite K a).yld i H x H' → gTup K 2 (gCons (gName j) (gCons (gName k) gNil)) x (wipe σ [j, k]) H' fun σ2 H2 => wipe σ2 [j, k] = wipe σ [j, k] ∧ tt σ2 H2 fun b H3 =>
        if b = true then te σ2 H3 fun y H4 => ∃ acc, H4 D = some (.lst acc) ∧ acc.length < sizeLine ∧ Nx (upd H4 D (.lst (acc ++ [y]))) else Nx H3) := by
  intro D hD
  refine ⟨fun i m H => m = xs.length - i ∧ i ≤ xs.length ∧ Ex H1 H ∧ H D = some (.lst (((xs.zipIdx.take i).filter fun q => p q.2 q.1).map fun q => f q.2 q.1)), ⟨_, rfl, Nat.zero_le _, Ex.new hD, upd_same⟩, ?_⟩
  rintro i m H ⟨rfl, hi, e, hl⟩
  by_cases hlt : i < xs.length
  · refine .inr ⟨⟨xs, xs[i], e.sqL hq, by simp [hlt]⟩, fun H' => Ex H1 H' ∧ H' D = some (.lst (((xs.zipIdx.take (i + 1)).filter fun q => p q.2 q.1).map fun q => f q.2 q.1)), fun H' h => ⟨_, by omega, rfl, hlt, h⟩, fun x H' y => ?_⟩
    obtain ⟨T, z, rfl, hT, rfl, hx'⟩ := y
    have hx := hx' xs (e.sqL hq)
    have e2 : Ex H1 (upd H T (.tup [.int (i : Nat), z])) := e.trans (Ex.new hT)
    have hl2 : (upd H T (.tup [.int (i : Nat), z])) D = some (.lst (((xs.zipIdx.take i).filter fun q => p q.2 q.1).map fun q => f q.2 q.1)) := Ex.new hT _ _ hl
    have hz2 : xs.zipIdx[i]? = some (z, i) := by simp [List.getElem?_zipIdx, hx]
    refine ⟨T, _, rfl, tOf upd_same, rfl, _, _, rfl, _, _, rfl, rfl, wipe_set2 _ _ _ _ _, ht i z _ _ hx e2 ?_⟩
    cases hp : p i z with
    | false =>
      rw [if_neg Bool.false_ne_true]
      refine ⟨e2, ?_⟩
      rw [take_succ_of hz2, List.filter_append]
      simp only [List.filter_cons, hp, List.filter_nil, List.append_nil, Bool.false_eq_true, if_false]
      exact hl2
    | true =>
      rw [if_pos rfl]
      refine hv i z _ _ hx hp e2 ⟨_, hl2, ?_, e2.mut hD, ?_⟩
      · refine sz_lt ?_
        rw [List.length_map]
        refine Nat.lt_of_le_of_lt (List.length_filter_le _ _) ?_
        rw [List.length_take]
        omega
      · rw [upd_same, take_succ_of hz2, List.filter_append, List.map_append]
        simp [List.filter_cons, hp]
  · have : i = xs.length := by omega
    subst this
    refine .inl ⟨⟨xs, e.sqL hq, Nat.le_refl _⟩, hd D H e hD ?_⟩
    rw [List.take_of_length_le (by simp)] at hl
    exact hl

def mkD (ks : List Int) : List (Key × V) := ks.foldl (fun m k => putK m (Sum.inl k) (.bl true)) []
theorem mkD_snoc (ks : List Int) (k : Int) : mkD (ks ++ [k]) = putK (mkD ks) (Sum.inl k) (.bl true) := by unfold mkD; rw [List.foldl_append]; rfl
theorem key_in_putK {kvs : List (Key × V)} {k : Key} {v : V} (q : Key) : q ∈ (putK kvs k v).map (·.1) ↔ q ∈ kvs.map (·.1) ∨ q = k := by
  unfold putK
  split
  · rename_i h
    have e : (kvs.map fun kv => if kv.1 = k then (kv.1, v) else kv).map (·.1) = kvs.map (·.1) := by
      rw [List.map_map]
      apply List.map_congr_left
      intro p _
      simp only [Function.comp]
      split <;> rfl
    rw [e]
    refine ⟨Or.inl, fun z => z.elim id fun z => ?_⟩
    subst z
    obtain ⟨p, hp, e⟩ := List.any_eq_true.mp h
    exact List.mem_map.mpr ⟨p, hp, of_decide_eq_true e⟩
  · rw [List.map_append, List.mem_append]
    simp
theorem mkD_fold : ∀ (ks : List Int) (acc : List (Key × V)) (q : Key), q ∈ (ks.foldl (fun m k => putK m (Sum.inl k) (.bl true)) acc).map (·.1) ↔ q ∈ acc.map (·.1) ∨ ∃ k ∈ ks, q = Sum.inl k
  | [], acc, q => by simp
  | k :: ks, acc, q => by
    rw [List.foldl_cons, mkD_fold ks, key_in_putK]
    simp only [List.mem_cons]
    constructor
    · rintro ((z | e) | ⟨z, hz, e⟩)
      · exact .inl z
      · exact .inr ⟨k, .inl rfl, e⟩
      · exact .inr ⟨z, .inr hz, e⟩
    · rintro (z | ⟨z, hz | hz, e⟩)
      · exact .inl (.inl z)
      · subst hz; exact .inl (.inr e)
      · exact .inr ⟨z, hz, e⟩
theorem mkD_mem (ks : List Int) (q : Key) : q ∈ (mkD ks).map (·.1) ↔ ∃ k ∈ ks, q = Sum.inl k := by
  unfold mkD
  rw [mkD_fold]
  simp
theorem valV_isSome {kvs : List (Key × V)} {q : Key} : (valV kvs q).isSome = true ↔ q ∈ kvs.map (fun p : Key × V => p.1) := by
  rw [← valV_any, List.any_eq_true, List.mem_map]
  constructor
  · rintro ⟨p, hp, e⟩; exact ⟨p, hp, of_decide_eq_true e⟩
  · rintro ⟨p, hp, e⟩; exact ⟨p, hp, decide_eq_true e⟩
theorem mkD_has (ks : List Int) (t : Int) : (valV (mkD ks) (Sum.inl t)).isSome = decide (t ∈ ks) := by
  rw [Bool.eq_iff_iff, decide_eq_true_iff, valV_isSome, mkD_mem]
  constructor
  · rintro ⟨k, hk, e⟩; cases e; exact hk
  · intro h; exact ⟨t, h, rfl⟩
theorem length_putK {kvs : List (Key × V)} {k : Key} {v : V} : (putK kvs k v).length ≤ kvs.length + 1 := by
  unfold putK
  split
  · rw [List.length_map]; omega
  · rw [List.length_append]; exact Nat.le_refl _
theorem mkD_len (ks : List Int) : (mkD ks).length ≤ ks.length := by
  have : ∀ (ks : List Int) (acc : List (Key × V)), (ks.foldl (fun m k => putK m (Sum.inl k) (.bl true)) acc).length ≤ acc.length + ks.length := by
    intro ks
    induction ks with
    | nil => intro acc; simp
    | cons k r ih =>
      intro acc
      rw [List.foldl_cons, List.length_cons]
      have a := ih (putK acc (Sum.inl k) (.bl true))
      have c := length_putK (kvs := acc) (k := Sum.inl k) (v := .bl true)
      omega
  have := this ks []
  simpa [mkD] using this
def keysD (kvs : List (Key × V)) : List Int := kvs.filterMap fun p => match p.1 with | .inl i => some i | .inr _ => none
theorem mkD_nodup (ks : List Int) : ((mkD ks).map (·.1)).Nodup := by
  have : ∀ (ks : List Int) (acc : List (Key × V)), (acc.map (·.1)).Nodup → ((ks.foldl (fun m k => putK m (Sum.inl k) (.bl true)) acc).map (·.1)).Nodup := by
    intro ks
    induction ks with
    | nil => intro acc h; exact h
    | cons k r ih =>
      intro acc h
      refine ih _ ?_
      show ((putK acc (Sum.inl k) (.bl true)).map (·.1)).Nodup
      unfold putK
      split
      · rename_i hh
        have e : (acc.map fun kv => if kv.1 = Sum.inl k then (kv.1, V.bl true) else kv).map (·.1) = acc.map (·.1) := by
          rw [List.map_map]
          apply List.map_congr_left
          intro p _
          simp only [Function.comp]
          split <;> rfl
        rw [e]; exact h
      · rename_i hh
        rw [List.map_append, List.nodup_append]
        refine ⟨h, by simp, fun a ha b hb e => hh ?_⟩
        simp only [List.map_cons, List.map_nil, List.mem_singleton] at hb
        subst hb e
        obtain ⟨p, hp, e⟩ := List.mem_map.mp ha
        exact List.any_eq_true.mpr ⟨p, hp, decide_eq_true e⟩
  exact this ks [] List.nodup_nil
theorem mkD_keys (ks : List Int) : ∃ zs : List Int, (mkD ks).map (fun p => kV p.1) = zs.map V.int ∧ zs.Nodup ∧ (∀ z, z ∈ zs ↔ z ∈ ks) ∧ zs.length ≤ ks.length := by
  have key : ∀ kvs : List (Key × V), (∀ q ∈ kvs.map (·.1), ∃ k : Int, q = Sum.inl k) → (kvs.map (·.1)).Nodup → ∃ zs : List Int, kvs.map (fun p => kV p.1) = zs.map V.int ∧ zs.Nodup ∧ (∀ z, z ∈ zs ↔ (Sum.inl z : Key) ∈ kvs.map (·.1)) ∧ zs.length = kvs.length := by
    intro kvs
    induction kvs with
    | nil => intro _ _; exact ⟨[], rfl, List.nodup_nil, by simp, rfl⟩
    | cons p r ih =>
      intro h hn
      rw [List.map_cons, List.nodup_cons] at hn
      obtain ⟨zs, e1, e2, e3, e4⟩ := ih (fun q hq => h q (List.mem_cons_of_mem _ hq)) hn.2
      obtain ⟨k, ek⟩ := h p.1 List.mem_cons_self
      refine ⟨k :: zs, ?_, ?_, ?_, by simp [e4]⟩
      · rw [List.map_cons, List.map_cons, e1, ek]; rfl
      · rw [List.nodup_cons]
        refine ⟨fun hk => hn.1 ?_, e2⟩
        rw [ek]; exact (e3 k).mp hk
      · intro z
        rw [List.mem_cons, List.map_cons, List.mem_cons, e3, ek]
        constructor
        · rintro (e | e)
          · exact .inl (by rw [e])
          · exact .inr e
        · rintro (e | e)
          · exact .inl (Sum.inl.inj e)
          · exact .inr e
  obtain ⟨zs, e1, e2, e3, e4⟩ := key (mkD ks) (fun q hq => by obtain ⟨k, _, e⟩ := (mkD_mem ks q).mp hq; exact ⟨k, e⟩) (mkD_nodup ks)
  refine ⟨zs, e1, e2, fun z => ?_, by rw [e4]; exact mkD_len ks⟩
  rw [e3, mkD_mem]
  constructor
  · rintro ⟨k, hk, e⟩; cases e; exact hk
  · intro h; exact ⟨z, h, rfl⟩
theorem dcf {J : It} {H1 : Hp} {xs : List V} (W : Wk J H1 xs) {j : Nat} {tk tv : TE} {σ : L2.St} {Q : Addr → Hp → Prop} (f : Nat → Int) (hz : xs.length ≤ 1000000)
    (hk : ∀ (i : Nat) x H' (Qv : VK), xs[i]? = some x → Ex H1 H' → Qv (.int (f i)) H' → tk ((wipe σ [j]).set j (some x)) H' Qv)
    (hv : ∀ (i : Nat) x H' (Qv : VK), xs[i]? = some x → Ex H1 H' → Qv (.bl true) H' → tv ((wipe σ [j]).set j (some x)) H' Qv)
    (hd : ∀ D H', Ex H1 H' → H1 D = none → H' D = some (.dK (mkD ((List.range xs.length).map f))) → Q D H') :
    ∀ D, H1 D = none → ∃ W : Nat → Nat → Hp → Prop, (∃ m, W 0 m (upd H1 D (.dK []))) ∧ ∀ i m H, W i m H →
      (J.stop i H ∧ Q D H) ∨ (J.go i H ∧ ∃ Nx : Hp → Prop, (∀ H', Nx H' → ∃ m', m' < m ∧ W (i + 1) m' H') ∧ ∀ x H', J.yld i H x H' → gName j x (wipe σ [j]) H' fun σ2 H2 => wipe σ2 [j] = wipe σ [j] ∧ tYes σ2 H2 fun b H3 =>
        if b = true then tk σ2 H3 fun y H4 => tv σ2 H4 fun z H5 => ∃ kvs k, y = kV k ∧ H5 D = some (.dK kvs) ∧ kvs.length < sizeLine ∧ Nx (upd H5 D (.dK (putK kvs k z))) else Nx H3) := by
  intro D hD
  refine ⟨fun i m H => m = xs.length - i ∧ i ≤ xs.length ∧ Ex H1 H ∧ H D = some (.dK (mkD ((List.range i).map f))), ⟨_, rfl, Nat.zero_le _, Ex.new hD, upd_same⟩, ?_⟩
  rintro i m H ⟨rfl, hi, e, hl⟩
  by_cases hlt : i < xs.length
  · refine .inr ⟨W.go H i e hlt, fun H' => Ex H1 H' ∧ H' D = some (.dK (mkD ((List.range (i + 1)).map f))), fun H' h => ⟨_, by omega, rfl, hlt, h⟩, fun x H' y => ?_⟩
    obtain ⟨rfl, hx⟩ := W.yl H i x H' e hlt y
    show wipe _ [j] = _ ∧ _
    refine ⟨wipe_set1 _ _ _, ?_⟩
    show tYes ((wipe σ [j]).set j (some x)) H' _
    unfold tYes
    dsimp only
    rw [if_pos rfl]
    refine hk i x _ _ hx e (hv i x _ _ hx e ⟨_, Sum.inl (f i), rfl, hl, ?_, e.mut hD, ?_⟩)
    · refine sz_lt (Nat.lt_of_le_of_lt (mkD_len _) ?_)
      rw [List.length_map, List.length_range]
      omega
    · rw [upd_same, List.range_succ, List.map_append]
      show some (HO.dK _) = some (HO.dK (mkD (_ ++ [f i])))
      rw [mkD_snoc]
  · have : i = xs.length := by omega
    subst this
    exact .inl ⟨W.st H _ e (Nat.le_refl _), hd D H e hD hl⟩
end TkL


namespace TkL
open PySem PySem.Spec PySem.Calls PyProof.Rows L2
section
variable {X : Cx}
def kLen (K : PySem.W.Frag) : List V → Hp → VK → Prop := fun xs H Q => ∃ p ys, xs = [.ref p] ∧ (SqL K H p ys ∨ SqT K H p ys) ∧ Q (.int ys.length) H
theorem c_len : CallR X (.builtin "len") (kLen X.K) := call_len_seq
def kLenS : List V → Hp → VK → Prop := fun xs H Q => ∃ z, xs = [.str z] ∧ z.length ≤ sizeLine ∧ Q (.int z.length) H
theorem c_lenS : CallR X (.builtin "len") kLenS := call_len_str
def kIsi (K : PySem.W.Frag) : List V → Hp → VK → Prop := L2.rIsi K
theorem c_isi : CallR X (.builtin "isinstance") (kIsi X.K) := L2.call_isi
def kInt : List V → Hp → VK → Prop := fun xs H Q => (∃ i, xs = [.int i] ∧ Q (.int i) H) ∨ ∃ k, xs = [.bl k] ∧ Q (.int (if k then 1 else 0)) H
theorem c_int : CallR X (.type "int") kInt := call_int1
def kIntS : List V → Hp → VK → Prop := fun xs H Q => ∃ a n, xs = [.str a] ∧ PySem.intText? a = some n ∧ a.length ≤ 640 ∧ Q (.int n) H
theorem c_intS : CallR X (.type "int") kIntS := call_int_str
def kStr : List V → Hp → VK → Prop := fun xs H Q => ∃ i, xs = [.int i] ∧ i.natAbs.log2 < 1920 ∧ Q (.str (toString i)) H
theorem c_str : CallR X (.type "str") kStr := call_str_int
def kBool : List V → Hp → VK → Prop := fun xs H Q => (∃ i, xs = [.int i] ∧ Q (.bl (i != 0)) H) ∨ ∃ k, xs = [.bl k] ∧ Q (.bl k) H
theorem c_bool : CallR X (.type "bool") kBool := call_bool1
def kList (K : PySem.W.Frag) : List V → Hp → VK → Prop := fun xs H Q => ∃ p ys, xs = [.ref p] ∧ (SqL K H p ys ∨ SqT K H p ys) ∧ ∀ l, H l = none → Q (.ref l) (upd H l (.lst ys))
theorem c_list : CallR X (.type "list") (kList X.K) := call_list_of
def kTuple (K : PySem.W.Frag) : List V → Hp → VK → Prop := fun xs H Q => ∃ p ys, xs = [.ref p] ∧ ((SqL K H p ys ∧ ∀ l, H l = none → Q (.ref l) (upd H l (.tup ys))) ∨ (SqT K H p ys ∧ Q (.ref p) H))
theorem c_tuple : CallR X (.type "tuple") (kTuple X.K) := call_tuple_of
def kDivmod : List V → Hp → VK → Prop := fun xs H Q => ∃ i j, xs = [.int i, .int j] ∧ CDiv i j ∧ ∀ p, H p = none → Q (.ref p) (upd H p (.tup [.int (i / j), .int (i % j)]))
theorem c_divmod : CallR X (.builtin "divmod") kDivmod := call_divmod
def kAbs : List V → Hp → VK → Prop := fun xs H Q => ∃ i, xs = [.int i] ∧ Q (.int (if i < 0 then -i else i)) H
theorem c_abs : CallR X (.builtin "abs") kAbs := call_abs
def kMax2 : List V → Hp → VK → Prop := fun xs H Q => ∃ i j, xs = [.int i, .int j] ∧ Q (.int (if j > i then j else i)) H
theorem c_max2 (h : X.calm = true) : CallR X (.builtin "max") kMax2 := call_max2 h
def kMin2 : List V → Hp → VK → Prop := fun xs H Q => ∃ i j, xs = [.int i, .int j] ∧ Q (.int (if j < i then j else i)) H
theorem c_min2 (h : X.calm = true) : CallR X (.builtin "min") kMin2 := call_min2 h
def kDict (K : PySem.W.Frag) : List V → Hp → VK → Prop := fun xs H Q => ∃ (a : Addr) (ps : List Addr) (kvs : List (Key × V)), xs = [.ref a] ∧ SqL K H a (ps.map V.ref) ∧ Paired (fun p kv => SqT K H p [kV kv.1, kv.2]) ps kvs ∧ ∀ p, H p = none → Q (.ref p) (upd H p (.dK (mergeK [] kvs)))
theorem c_dict (h : X.calm = true) : CallR X (.type "dict") (kDict X.K) := call_dictP h
def mSplit : V → List V → Hp → VK → Prop := fun x xs H Q => ∃ a b, x = .str a ∧ xs = [.str b] ∧ (b.length == 0) = false ∧ a.length + 2 ≤ sizeLine ∧ rNewStrs (Txt.split a b) H Q
theorem m_split : MtR X "str.split" mSplit := mt_split
def mJoin (K : PySem.W.Frag) : V → List V → Hp → VK → Prop := fun x xs H Q => ∃ a p, ∃ ys : List Str, x = .str a ∧ xs = [.ref p] ∧ (SqL K H p (ys.map V.str) ∨ SqT K H p (ys.map V.str)) ∧ (ys.map (·.length)).sum + ys.length * a.length ≤ 16777216 ∧ Q (.str (Txt.join a ys)) H
theorem m_join : MtR X "str.join" (mJoin X.K) := mt_join
def rInSig : R2 := fun x y H Q => ∃ (c : Nat) (z : Str), x = .str ⟨#[c]⟩ ∧ y = .str z ∧ Q (.bl (decide (c ∈ z.cps.toList))) H
theorem o_inSig : OpR X (compareOp .In) rInSig := op_in_sign
def rNotInSig : R2 := fun x y H Q => ∃ (c : Nat) (z : Str), x = .str ⟨#[c]⟩ ∧ y = .str z ∧ Q (.bl (!decide (c ∈ z.cps.toList))) H
theorem o_notInSig : OpR X (compareOp .NotIn) rNotInSig := op_notIn_sign
def rIsNon : R2 := fun x y H Q => y = .non ∧ Q (.bl (decide (x = .non))) H
theorem o_isNon : OpR X (compareOp .Is) rIsNon := op_isN
def rNotNon : R2 := fun x y H Q => y = .non ∧ Q (.bl (!decide (x = .non))) H
theorem o_notNon : OpR X (compareOp .IsNot) rNotNon := op_notN
def rAddS : R2 := fun x y H Q => ∃ i j, x = .str i ∧ y = .str j ∧ i.length + j.length ≤ sizeLine ∧ Q (.str (i ++ j)) H
theorem o_addS : OpR X (binaryOp .Add) rAddS := op_add_str
def tJoin (ts : List TE) : TE := fun σ H Q => tJs ts Str.empty σ H fun out H1 => Q (.str out) H1
theorem pe_join {v1 v2 : Expr} {rest : List Expr} {ts : List TE} {pos : Pos} (h : PJ X (v1 :: v2 :: rest) ts) : PE X (.JoinedStr (v1 :: v2 :: rest) pos) (tJoin ts) := pe_joined h
def iSeq (K : PySem.W.Frag) (tl : TE) : TI := fun σ H R => tl σ H fun x H1 => ∃ a xs, x = .ref a ∧ (SqL K H1 a xs ∨ SqT K H1 a xs) ∧ ∀ J, Wk J H1 xs → R J H1
theorem pi_seq {l tg : Expr} {tl : TE} (hl : PE X l tl) : PI X tg l (iSeq X.K tl) := by
  refine ⟨fun pins s σ H R I h => ?_⟩
  refine thn (hl.run pins s σ H _ I h) fun v s1 ⟨x, H1, I1, r1, a, xs, e, hq, q⟩ => ?_
  subst e
  cases r1
  rcases hq with hq | hq
  · obtain ⟨its, rv, p, hz⟩ := I1.list hq
    refine wpAny_pyIter_list p.isList ?_
    refine ⟨s1.heap.objs.size, [s1.heap.objs.size], _, _, H1, rfl, I1.kept (t' := s1.toks) fun b o e => Heap.get?_push_of_some _ e, turn_list a _, ⟨_, Heap.get?_push_size _ rfl, rfl, rfl⟩, fun b hb => ?_, q _ (Wk.list hq)⟩
    have e : b = s1.heap.objs.size := by simpa using hb
    subst e
    exact I1.fpOk (Nat.le_refl _) (I1.hok.fresh (Nat.le_refl _))
  · obtain ⟨its, rv, p, hz⟩ := I1.tuple hq
    refine wpAny_pyIter_tuple (show s1.heap.IsTuple a its.toArray from p) ?_
    refine ⟨s1.heap.objs.size, [s1.heap.objs.size], _, _, H1, rfl, I1.kept (t' := s1.toks) fun b o e => Heap.get?_push_of_some _ e, turn_tuple a _, ⟨_, Heap.get?_push_size _ rfl, rfl, rfl⟩, fun b hb => ?_, q _ (Wk.tup hq)⟩
    have e : b = s1.heap.objs.size := by simpa using hb
    subst e
    exact I1.fpOk (Nat.le_refl _) (I1.hok.fresh (Nat.le_refl _))
def GlobI (mg : Str → Option Value) (x : Str) (n : Int) : Prop := ∃ t, mg x = some (.int n t)
def GlobS (mg : Str → Option Value) (x : Str) (z : Str) : Prop := ∃ t, mg x = some (.str z t)
theorem pe_gi {x : Str} {n : Int} {pos : Pos} (h : GlobI X.mg x n) (hg : Gl X x := by rfl) (hd : (x == ("__debug__" : Str)) = false := by decide) : PE X (.Name x pos) (tC (.int n)) :=
  let ⟨t, e⟩ := h; pe_glob hg e ⟨t, rfl⟩ hd
theorem pe_gs {x : Str} {z : Str} {pos : Pos} (h : GlobS X.mg x z) (hg : Gl X x := by rfl) (hd : (x == ("__debug__" : Str)) = false := by decide) : PE X (.Name x pos) (tC (.str z)) :=
  let ⟨t, e⟩ := h; pe_glob hg e ⟨t, rfl⟩ hd
theorem pe_gc {x : Str} {C : Addr} {pos : Pos} (h : X.mg x = some (.ref C)) (hg : Gl X x := by rfl) (hd : (x == ("__debug__" : Str)) = false := by decide) : PE X (.Name x pos) (tC (.ref C)) :=
  pe_glob hg h rfl hd
theorem pe_bt {x : Str} {T : String} {pos : Pos} (hm : X.mg x = none) (hv : bootBuiltins x = some (.type T) := by decide +kernel) (hg : Gl X x := by rfl) (hn : x ≠ "__name__" := by decide) (hd : (x == ("__debug__" : Str)) = false := by decide) : PE X (.Name x pos) (tC (.ty T)) :=
  pe_bltn hg hm hv rfl hn hd
end
structure Blt (mg : Str → Option Value) : Prop where
  range : mg "range" = none
  len : mg "len" = none
  isinstance : mg "isinstance" = none
  bool : mg "bool" = none
  int : mg "int" = none
  list : mg "list" = none
  tuple : mg "tuple" = none
  str : mg "str" = none
  sum : mg "sum" = none
  all : mg "all" = none
  any : mg "any" = none
  sorted : mg "sorted" = none
  dict : mg "dict" = none
  max : mg "max" = none
  min : mg "min" = none
  divmod : mg "divmod" = none
  abs : mg "abs" = none
  enumerate : mg "enumerate" = none
structure Cst (mg : Str → Option Value) : Prop where
  MAX_TICK : GlobI mg "MAX_TICK" 1000000000000000000
  MAX_LENGTH : GlobI mg "MAX_LENGTH" 20000
  MAX_BEGIN : GlobI mg "MAX_BEGIN" 100000
  DIGITS : GlobS mg "DIGITS" "0123456789"
  MAX_DIGITS : GlobI mg "MAX_DIGITS" 6
  NEVER : GlobS mg "NEVER" "never"
  BAR : GlobS mg "BAR" "|"
structure RowC (K : PySem.W.Frag) (mg : Str → Option Value) (C : Addr) : Prop where
  own : OwnC K C
  ne : NeC K C
  gC : mg "Row" = some (.ref C)
  early : NoAttr K C "early"
  begin_ : NoAttr K C "begin"
  length : NoAttr K C "length"
  offsets : NoAttr K C "offsets"
  marks : NoAttr K C "marks"
  parts : NoAttr K C "parts"
  insC : L2.ClsV (.ref C) (.ref C) ∧ PySem.W.kitOne K (.ref C) (.ref C) = some true
end TkL


namespace TkL
open PySem PySem.Spec PySem.Calls PyProof.Rows L2
section
variable {X : Cx} {CX : CXT} {k i : Nat} {C : Addr} {m x : Str} {ps : List Str} {sp : Sp} {E : XK} {o e fe : Expr} {es : List Expr} {ta te tf : TE} {tt : TT} {t : TA} {p apos pos : Pos}
theorem rm2 {A : Around} (hr : Room k A) : A.units + 2 < cLine := by have := hr.un; omega
theorem rm1 {A : Around} (hr : Room k A) : A.units + 1 < cLine := by have := hr.un; omega
theorem rm64 {A : Around} (hr : Room k A) : A.units + 64 < cLine := by have := hr.un; omega
theorem rm0 {A : Around} (hr : Room k A) : A.units < cLine := by have := hr.un; omega
def tIns (C : Addr) (sp : Sp) (E : XK) (tf : TE) (t : TA) : TE := fun σ H Q => tf σ H fun y H1 => ∃ a, y = V.ref a ∧ t σ H1 fun vs H2 => (∃ dx fs, H2 a = some (.ins C dx fs)) ∧ sp (V.ref a :: vs) H2 Q E
theorem pe_insN (F : MetN X.prog X.w X.K X.mg X.base CX k C "__call__" ps sp) (hr : Room k X.A) (hx : Passes CX X E) (hf : PE X fe tf) (ha : PA X (e :: es) t)
    (ht : eval (.Call fe (e :: es) [] pos) X.env = (do callWith pos (← eval fe X.env) [] (backTo pos (starEach (e :: es) X.env)) (backToKw pos (keywordEach [] X.env))) := by rfl)
    (he : starEach (e :: es) X.env = (false, eval e X.env) :: starEach es X.env := by rfl) (hpl : (backTo pos (starEach es X.env)).any (·.1) = false := by rfl) : PE X (.Call fe (e :: es) [] pos) (tIns C sp E tf t) := by
  obtain ⟨f, a, b, c, d⟩ := F.raw
  refine ⟨fun pins s σ H Q I h => ?_⟩
  refine Call_ (thn (hf.run pins s σ H _ I h) fun u s1 ⟨y, H1, I1, ry, a, ey, q⟩ => ?_) ht
  subst ey
  obtain rfl : u = Value.ref a := ry
  refine StX.callO_with (thn (ha.run pos pins s1 σ H1 _ I1 q) fun us s2 ⟨vs, H2, I2, r, ⟨dx, fs, hi⟩, q2⟩ => ?_) he hpl
  have hi' : StX.InsC X H2 a C := .inr ⟨dx, fs, hi⟩
  obtain ⟨ox, od, J, hd⟩ := StX.insC_at I2 hi'
  exact ⟨⟨C, ox, od, J, hd⟩, StX.run_callO ⟨by assumption, by assumption, by assumption⟩ d hr hx I2 hi' r q2⟩
theorem ps_setDc {i : Nat} {y : Str} {py : Pos} {kx vx tg iter : Expr} {ifs : List Expr} {scope : Scope} {own : List (Str × Nat)} {pos spos : Pos} {wi : TI} {g : TG} {tt : TT} {tk tv : TE} (hc : X.calm = true) (hN : X.N.Nodup) (hy : X.N[i]? = some y) (hyl : X.env.scope.names.lookup y = some .local)
    (hsw : swapsWith (.DictComp kx vx [⟨tg, iter, ifs, 0⟩] scope pos) (some (.Name y py)) spos.line X.env = pure true) (hi : PI X tg iter wi) (ok : BlkOk X.N X.env.scope scope own)
    (hg : ∀ (s : Shared) (H : Hp) (C : Addr) (cl : List (Str × Addr)) (fp : List Addr), PG (X.blk s H scope (compEnvC scope cl C X.env) fp) tg g) (ht : ∀ (s : Shared) (H : Hp) (C : Addr) (cl : List (Str × Addr)) (fp : List Addr), PTs (X.blk s H scope (compEnvC scope cl C X.env) fp) ifs tt)
    (hk : ∀ (s : Shared) (H : Hp) (C : Addr) (cl : List (Str × Addr)) (fp : List Addr), PE (X.blk s H scope (compEnvC scope cl C X.env) fp) kx tk)
    (he : ∀ (s : Shared) (H : Hp) (C : Addr) (cl : List (Str × Addr)) (fp : List Addr), PE (X.blk s H scope (compEnvC scope cl C X.env) fp) vx tv) (hs : ∀ x, foldedSetIterable iter X.env x = pure x := by intro _; rfl) :
    PS X (.Assign [.Name y py] (.DictComp kx vx [⟨tg, iter, ifs, 0⟩] scope pos) spos) (tAsg (tDc wi g tt tk tv (own.map (·.2))) (gName i)) := by
  refine ⟨fun pins s σ H D I h => ?_⟩
  rw [exec_Assign_Name_used _ _ _ _ hsw]
  refine wpAny_bind (wpAny_standAt (wpAny_bind ?_))
  show wpAny _ X.A (do let _ ← comprehension (.DictComp kx vx [⟨tg, iter, ifs, 0⟩] scope pos) scope X.env (firstIterPos [⟨tg, iter, ifs, 0⟩] pos) newDict false (eval iter X.env) (some (assign (.Name y py) X.env))) _ _ s
  have h : tDc wi g tt tk tv (own.map (·.2)) σ H (fun x H1 => gName i x σ H1 D.nx) := h
  refine wpAny_bind (thn (dc_core (Qf := fun _ s' => SP X pins D .next s') hc hN I hi ok hg ht hk he hs h fun L C s' m H' I' q hn f => ?_) fun _ s' hq => wpAny_pure (wpAny_pure hq))
  show wpAny _ _ (assign (.Name y py) X.env (.ref L)) _ _ _
  refine wpAny_assign_Name (store_ok2 (v := V.ref L) I' hN hy (.inl hyl) rfl (fun s2 I2 ⟨a, sb, ha⟩ => ?_) (.inr hyl))
  obtain ⟨f0, f1, f2, f3, f4, f5⟩ := f
  have haC : C ≠ a := by
    rcases ha with z | z
    · rw [z]; exact f1
    · exact fun e => f4 y a z e.symm
  refine ⟨m, hn.sameBut sb haC, fun h3 sb3 => ?_⟩
  exact ⟨_, H', I2.turned (t' := s2.toks) (fun b o hb e => (sb3.2 b hb).trans e) f0 f1 f3 f4 f5, q⟩
theorem swd_true {kx vx : Expr} {gs : List Comprehension} {scope : Scope} {pos py : Pos} {y : Str} {l : Nat} {env : Env} (hk : env.scope.kind = .function) (hy : env.scope.names.lookup y = some .local) (hl : (py.line == pos.line) = true)
    (ha : (scope.names.any fun (n, k) => n == y && (k == .local || k == .cell)) = false) : swapsWith (.DictComp kx vx gs scope pos) (some (.Name y py)) l env = pure true := by
  have ky : env.kindOf y = some .local := hy
  have hb : env.blockKind = .function := by unfold Env.blockKind; rw [hk]; rfl
  unfold swapsWith
  simp only [hb, ky, ha, Expr.pos, hl]
  rfl
end
section
variable {σ : L2.St} {H : Hp} {Q : VK} {D : Ends} {t u : TS} {ta tb tc te tf : TE} {tt tu : TT} {A : TA} {v x y : V} {i : Nat} {K : PySem.W.Frag} {C : Addr} {sp : Sp} {E : XK}
theorem x_ins (h : tf σ H fun y H1 => ∃ a, y = V.ref a ∧ A σ H1 fun vs H2 => (∃ dx fs, H2 a = some (.ins C dx fs)) ∧ sp (V.ref a :: vs) H2 Q E) : tIns C sp E tf A σ H Q := h
theorem x_mk (h : A σ H fun vs H1 => ∀ (x dx : Addr), H1 x = none → H1 dx = none → dx ≠ x → sp (V.ref x :: vs) (upd (upd H1 dx (.own x)) x (.ins C dx [])) (fun v H2 => v = V.non ∧ Q (V.ref x) H2) E) : tMk C sp E A σ H Q := h
theorem x_mkV (hv : σ[i]? = some (some (V.ref C))) (h : A σ H fun vs H1 => ∀ (x dx : Addr), H1 x = none → H1 dx = none → dx ≠ x → sp (V.ref x :: vs) (upd (upd H1 dx (.own x)) x (.ins C dx [])) (fun v H2 => v = V.non ∧ Q (V.ref x) H2) E) : tMkV i C sp E A σ H Q := ⟨hv, h⟩
theorem x_exR {P : Addr → Prop} {a : Addr} (h : P a) : ∃ b, V.ref a = .ref b ∧ P b := ⟨a, rfl, h⟩
theorem x_aug {r : TIp} {v : V} (e : σ[i]? = some (some v)) (h : te σ H fun y H1 => r v y H1 fun z H2 => D.nx (List.set σ i (some z)) H2) : tAug i te r D σ H := ⟨v, e, h⟩
theorem x_ipI {f : Int → Int → Int} {a b : Int} (h : Q (.int (f a b)) H) : ipI f (.int a) (.int b) H Q := ⟨a, b, rfl, rfl, h⟩
theorem x_par3 {j l : Nat} (h : A σ H fun vs H1 => ∃ u v w, vs = [u, v, w] ∧ D.nx (((List.set σ i (some u)).set j (some v)).set l (some w)) H1) : tPar3 i j l A D σ H := h
theorem x_par3Ex {P : V → V → V → Prop} {a b c : V} (h : P a b c) : ∃ u v w, [a, b, c] = [u, v, w] ∧ P u v w := ⟨a, b, c, rfl, h⟩
theorem x_isNonT {x : V} (h : Q (.bl (decide (x = .non))) H) : rIsNon x .non H Q := ⟨rfl, h⟩
theorem x_notNonT {x : V} (h : Q (.bl (!decide (x = .non))) H) : rNotNon x .non H Q := ⟨rfl, h⟩
theorem x_lst0 (h : ∀ p H', Ex H H' → H p = none → H' p = some (.lst []) → Q (.ref p) H') : tLst tNil σ H Q := ⟨Nat.zero_le _, x_new h⟩
theorem x_tup0 (h : ∀ p H', Ex H H' → H p = none → H' p = some (.tup []) → Q (.ref p) H') : tTup tNil σ H Q := ⟨Nat.zero_le _, x_new h⟩
theorem x_kint {i : Int} (h : Q (.int i) H) : kInt [.int i] H Q := .inl ⟨i, rfl, h⟩
theorem x_kintb {b : Bool} (h : Q (.int (if b then 1 else 0)) H) : kInt [.bl b] H Q := .inr ⟨b, rfl, h⟩
theorem x_kdiv {i j : Int} (c : CDiv i j) (h : ∀ p H', Ex H H' → H p = none → H' p = some (.tup [.int (i / j), .int (i % j)]) → Q (.ref p) H') : kDivmod [.int i, .int j] H Q := ⟨i, j, rfl, c, x_new h⟩
theorem x_gtup2 {p : Addr} {Q : L2.St → Hp → Prop} {v w : V} {j : Nat} (s : SqT K H p [v, w]) (h : Q ((σ.set i (some v)).set j (some w)) H) : gTup K 2 (gCons (gName i) (gCons (gName j) gNil)) (.ref p) σ H Q := ⟨p, _, rfl, s, rfl, _, _, rfl, _, _, rfl, rfl, h⟩
theorem x_gtup3 {p : Addr} {Q : L2.St → Hp → Prop} {u v w : V} {j l : Nat} (s : SqT K H p [u, v, w]) (h : Q (((σ.set i (some u)).set j (some v)).set l (some w)) H) : gTup K 3 (gCons (gName i) (gCons (gName j) (gCons (gName l) gNil))) (.ref p) σ H Q := ⟨p, _, rfl, s, rfl, _, _, rfl, _, _, rfl, _, _, rfl, rfl, h⟩
end
end TkL


namespace Tk
def cntLe (l : List Int) (t : Int) : Nat := (l.filter fun x => decide (x ≤ t)).length
def RV.count (r : RV) (t : Int) : Int := if t < r.beg then (cntLe r.early t : Nat) else (r.early.length : Nat) + (t - r.beg) / r.len * (r.offs.length : Nat) + (cntLe r.offs ((t - r.beg) % r.len) : Nat)
def RV.nth (r : RV) (n : Int) : Int := if n < r.early.length then r.early.getD n.toNat 0 else r.beg + (n - r.early.length) / r.offs.length * r.len + r.offs.getD ((n - r.early.length) % r.offs.length).toNat 0
def diffs : List Int → List Int
  | [] => []
  | [_] => []
  | a :: b :: l => (b - a) :: diffs (b :: l)
def RV.laps (r : RV) : List Int := diffs (r.offs ++ (r.offs.take 1).map (· + r.len))
def RV.flaps (r : RV) : List Int := diffs (r.early ++ (r.offs.take 1).map (r.beg + ·))
def tks : Int → List Int → List Int
  | a, [] => [a]
  | a, b :: l => a :: tks (a + b) l
def ticksOf : List Int → List Int
  | [] => []
  | a :: l => tks a l
structure RB (r : RV) : Prop where
  c : Canon r
  bb : r.beg ≤ 200000
  lb : r.len ≤ 20000
def planHas (s : Int) (fs ls : List Int) (t : Int) : Bool := qhas (tks s fs).dropLast (s + fs.sum) ls.sum (tks 0 ls).dropLast t
end Tk
namespace TkL
open PySem PySem.Spec PySem.Calls PyProof.Rows L2 Tk
def zI (l : List Int) : List V := l.map V.int
def rowFs (p1 : Addr) (b l : Int) (p2 p3 p4 : Addr) : List (Str × V) := [("early", .ref p1), ("begin", .int b), ("length", .int l), ("offsets", .ref p2), ("marks", .ref p3), ("parts", .ref p4)]
structure RowI (K : PySem.W.Frag) (C : Addr) (H : Hp) (a : Addr) (r : RV) (dx p1 p2 p3 p4 : Addr) : Prop where
  ob : H a = some (.ins C dx (rowFs p1 r.beg r.len p2 p3 p4))
  e : SqT K H p1 (zI r.early)
  o : SqT K H p2 (zI r.offs)
  m : H p3 = some (.dK (mkD r.offs))
  p : SqT K H p4 [.ref p1, .int r.beg, .int r.len, .ref p2]
  rb : RB r
def RowAt (K : PySem.W.Frag) (C : Addr) (H : Hp) (a : Addr) (r : RV) : Prop := ∃ dx p1 p2 p3 p4, RowI K C H a r dx p1 p2 p3 p4
def Seq (K : PySem.W.Frag) (H : Hp) (p : Addr) (xs : List V) : Prop := SqL K H p xs ∨ SqT K H p xs
structure TyF (K : PySem.W.Frag) (C : Addr) : Prop where
  row_row : PySem.W.kitOne K (.ref C) (.ref C) = some true
  insX : ∀ (H : Hp) (a dx : Addr) (fs : List (Str × V)), H a = some (.ins C dx fs) → TyX K H (.ref a) (.ref C)
  cl : Cls K C
  early : NoAttr K C "early"
  begin_ : NoAttr K C "begin"
  length : NoAttr K C "length"
  offsets : NoAttr K C "offsets"
  marks : NoAttr K C "marks"
  parts : NoAttr K C "parts"
  int_int : PySem.W.kitOne K (.type "int") (.type "int") = some true
  int_bool : PySem.W.kitOne K (.type "int") (.type "bool") = some false
  bool_int : PySem.W.kitOne K (.type "bool") (.type "int") = some true
  bool_bool : PySem.W.kitOne K (.type "bool") (.type "bool") = some true
  str_int : PySem.W.kitOne K (.type "str") (.type "int") = some false
  none_int : PySem.W.kitOne K (.type "NoneType") (.type "int") = some false
section
variable (K : PySem.W.Frag) (C : Addr)
def spIii : Sp := fun vs H Q _ => ∃ x lo hi, vs = [x, .int lo, .int hi] ∧ ((∃ i, x = .int i ∧ Q (.bl (decide (lo ≤ i) && decide (i ≤ hi))) H) ∨ ((∃ b, x = .bl b) ∨ x = .non ∨ ∃ z, x = .str z) ∧ Q (.bl false) H)
def spInit : Sp := fun vs H Q _ => ∃ a dx p1 p2 r, vs = [.ref a, .ref p1, .int r.beg, .int r.len, .ref p2] ∧ H a = some (.ins C dx []) ∧ SqT K H p1 (zI r.early) ∧ SqT K H p2 (zI r.offs) ∧ RB r ∧
  ∀ H', (∀ x o, x ≠ a → H x = some o → H' x = some o) → RowAt K C H' a r → Q .non H'
def spGcd : Sp := fun vs H Q _ => ∃ a b : Int, vs = [.int a, .int b] ∧ 0 < a ∧ 0 ≤ b ∧ a < 1073741824 ∧ b < 1073741824 ∧ Q (.int (Int.gcd a b)) H
def spHolds : Sp := fun vs H Q _ => ∃ a t r, vs = [.ref a, .int t] ∧ RowAt K C H a r ∧ Q (.bl (r.has t)) H
def spCount : Sp := fun vs H Q _ => ∃ a t r, vs = [.ref a, .int t] ∧ RowAt K C H a r ∧ ∀ H', Ex H H' → Q (.int (r.count t)) H'
def spCall : Sp := fun vs H Q _ => ∃ a t r, vs = [.ref a, .int t] ∧ RowAt K C H a r ∧ 0 ≤ t ∧ t ≤ 1000000000000000000 ∧ ∀ H', Ex H H' → Q (.int (r.count t)) H'
def spContains : Sp := fun vs H Q _ => ∃ a x r, vs = [.ref a, x] ∧ RowAt K C H a r ∧ ((∃ t, x = .int t ∧ Q (.bl (decide (0 ≤ t) && decide (t ≤ 1000000000000000000) && r.has t)) H) ∨ ((∃ b, x = .bl b) ∨ x = .non ∨ ∃ z, x = .str z) ∧ Q (.bl false) H)
def spBool : Sp := fun vs H Q _ => ∃ a r, vs = [.ref a] ∧ RowAt K C H a r ∧ Q (.bl (decide (0 < (r.early.length : Int) + r.offs.length))) H
def spItem : Sp := fun vs H Q _ => ∃ a n r, vs = [.ref a, .int n] ∧ RowAt K C H a r ∧ 0 ≤ n ∧ n ≤ 1000000000000000000 ∧ (n < r.early.length ∨ r.offs ≠ []) ∧ ∀ H', Ex H H' → Q (.int (r.nth n)) H'
def spEq : Sp := fun vs H Q _ => ∃ a b r s, vs = [.ref a, .ref b] ∧ RowAt K C H a r ∧ RowAt K C H b s ∧ Q (.bl (decide (r = s))) H
def spEndless : Sp := fun vs H Q _ => ∃ a r, vs = [.ref a] ∧ RowAt K C H a r ∧ ∀ H', Ex H H' → Q (.bl (decide (r.offs ≠ []))) H'
def spRep : Sp := fun vs H Q _ => ∃ a r, vs = [.ref a] ∧ RowAt K C H a r ∧ ∀ H' p, Ex H H' → H' p = some (.tup [.int r.beg, .int r.len, .int r.offs.length]) → Q (.ref p) H'
def spLaps : Sp := fun vs H Q _ => ∃ a r, vs = [.ref a] ∧ RowAt K C H a r ∧ ∀ H' p, Ex H H' → H' p = some (.tup (zI r.laps)) → Q (.ref p) H'
def spFlaps : Sp := fun vs H Q _ => ∃ a r, vs = [.ref a] ∧ RowAt K C H a r ∧ ∀ H' p, Ex H H' → H' p = some (.tup (zI r.flaps)) → Q (.ref p) H'
def spTicksOf : Sp := fun vs H Q _ => ∃ p ns, vs = [.ref p] ∧ SqL K H p (zI ns) ∧ ns ≠ [] ∧ ns.length ≤ 500000 ∧ ∀ H' q, Ex H H' → H q = none → H' q = some (.lst (zI (ticksOf ns))) → Q (.ref q) H'
def spShortest : Sp := fun vs H Q _ => ∃ l p o, vs = [.int l, .ref p] ∧ Seq K H p (zI o) ∧ 1 ≤ l ∧ l ≤ 20000 ∧ (∀ x ∈ o, 0 ≤ x ∧ x < l) ∧ o.length ≤ 20000 ∧ ∀ H' n, Ex H H' → Shortest l o n → Q (.int n) H'
def spNormal : Sp := fun vs H Q _ => ∃ pe po e b l o, vs = [.ref pe, .int b, .int l, .ref po] ∧ SqL K H pe (zI e) ∧ Seq K H po (zI o) ∧ WF e b l o ∧ b ≤ 200000 ∧ l ≤ 20000 ∧
  ∀ H' a r, Ex H H' → H a = none → RowAt K C H' a r → (∀ t, r.has t = qhas e b l o t) → Q (.ref a) H'
def spRowOfLaps : Sp := fun vs H Q _ => ∃ s pf pl fs ls, vs = [.int s, .ref pf, .ref pl] ∧ Seq K H pf (zI fs) ∧ Seq K H pl (zI ls) ∧ 0 ≤ s ∧ (∀ x ∈ fs, 1 ≤ x) ∧ (∀ x ∈ ls, 1 ≤ x) ∧ ls ≠ [] ∧ s + fs.sum ≤ 200000 ∧ ls.sum ≤ 20000 ∧
  ∀ H' a r, Ex H H' → H a = none → RowAt K C H' a r → (∀ t, r.has t = planHas s fs ls t) → Q (.ref a) H'
def spRowOfTicks : Sp := fun vs H Q _ => ∃ p ts, vs = [.ref p] ∧ SqL K H p (zI ts) ∧ ts ≠ [] ∧ ts.Pairwise (· < ·) ∧ (∀ x ∈ ts, 0 ≤ x ∧ x < 200000) ∧
  ∀ H' a r, Ex H H' → H a = none → RowAt K C H' a r → (∀ t, r.has t = decide (t ∈ ts)) → Q (.ref a) H'
end

def rdig (c : Nat) : Bool := decide (c ∈ ("0123456789" : Str).cps.toList)
def readN (w : Str) : Option Int := if 1 ≤ w.length ∧ w.length ≤ 6 ∧ w.cps.toList.all rdig = true ∧ ¬ (1 < w.length ∧ w.cps.toList[0]? = some 48) then PySem.intText? w else none
def readV (w : Str) : V := match readN w with | none => .non | some n => .int n
abbrev PSt : Type := List Int × Option Nat
def stepP (place : Nat) (w : Str) (s : PSt) : Option PSt :=
  if w = "|" ∧ s.2 = none ∧ 0 < place then some (s.1, some s.1.length)
  else match readN w with
    | none => none
    | some n => if (n = 0 ∧ 0 < place) ∨ 100000 < n then none else match s.2 with
      | none => if 100000 < (s.1 ++ [n]).sum then none else some (s.1 ++ [n], none)
      | some b => if 20000 < ((s.1 ++ [n]).drop b).sum then none else some (s.1 ++ [n], some b)
def runP : Nat → List Str → PSt → Option PSt
  | _, [], s => some s
  | i, w :: ws, s => match stepP i w s with
    | none => none
    | some s' => runP (i + 1) ws s'
def parseSet (z : Str) : Option (Int → Bool) :=
  if z = "never" then some fun _ => false
  else match runP 0 (Txt.split z " ") ([], none) with
    | none => none
    | some (ns, none) => some fun t => decide (t ∈ ticksOf ns)
    | some (ns, some b) => if b = ns.length then none else some (planHas (ns.getD 0 0) ((ns.drop 1).take (b - 1)) (ns.drop b))
section
variable (K : PySem.W.Frag) (C : Addr)
def spReadNumber : Sp := fun vs H Q _ => ∃ w : Str, vs = [.str w] ∧ w.length ≤ sizeLine ∧ ∀ H', Ex H H' → Q (readV w) H'
def spParse : Sp := fun vs H Q _ => ∃ z S, vs = [.ref C, .str z] ∧ z.length ≤ 100000 ∧ parseSet z = some S ∧ ∀ H' a r, Ex H H' → H a = none → RowAt K C H' a r → (∀ t, r.has t = S t) → Q (.ref a) H'
structure WFD (ds : List Int) : Prop where
  l2 : 2 ≤ ds.length
  nn : ∀ x ∈ ds, 0 ≤ x
  sm : ds.getD 0 0 < 2147483647
def DAt (d : Addr) (H : Hp) : Prop := ∃ ds, H d = some (.lst (zI ds)) ∧ WFD ds
def Kp (d : Addr) (H H' : Hp) : Prop := ∀ x o, x ≠ d → H x = some o → H' x = some o
structure PlanOk (m s : Int) (fs ls : List Int) : Prop where
  s0 : 0 ≤ s
  s1 : s < 60
  fl : fs.length ≤ 3
  fr : ∀ x ∈ fs, 1 ≤ x ∧ x ≤ 60
  ln : ls ≠ []
  ll : (ls.length : Int) ≤ m
  lr : ∀ x ∈ ls, 1 ≤ x ∧ x ≤ 60
def spRandom : Sp := fun vs H Q _ => ∃ p ns salt, vs = [.ref p, .int salt] ∧ SqL K H p (zI ns) ∧ ns.length ≤ 63 ∧ 0 ≤ salt ∧ salt < 1000 ∧ ∀ H' d, Ex H H' → H d = none → DAt d H' → Q (.ref d) H'
def spBelow : Sp := fun vs H Q _ => ∃ d n, vs = [.ref d, .int n] ∧ DAt d H ∧ 0 < n ∧ n < 1073741824 ∧ ∀ H' v, Kp d H H' → DAt d H' → 0 ≤ v → v < n → Q (.int v) H'
def spLawLaps : Sp := fun vs H Q _ => ∃ d m, vs = [.ref d, .int m] ∧ DAt d H ∧ 1 ≤ m ∧ m ≤ 100 ∧ ∀ H' p ls, Kp d H H' → DAt d H' → H' p = some (.tup (zI ls)) → ls ≠ [] → (ls.length : Int) ≤ m → (∀ x ∈ ls, 1 ≤ x ∧ x ≤ 60) → Q (.ref p) H'
def spPlan : Sp := fun vs H Q _ => ∃ d m, vs = [.ref d, .int m] ∧ DAt d H ∧ 1 ≤ m ∧ m ≤ 100 ∧ ∀ H' p s pf fs pl ls, Kp d H H' → DAt d H' → H' p = some (.tup [.int s, .ref pf, .ref pl]) → H' pf = some (.tup (zI fs)) → H' pl = some (.tup (zI ls)) → PlanOk m s fs ls → Q (.ref p) H'
def spLawRow : Sp := fun vs H Q _ => ∃ p s pf fs pl ls, vs = [.ref p] ∧ SqT K H p [.int s, .ref pf, .ref pl] ∧ SqT K H pf (zI fs) ∧ SqT K H pl (zI ls) ∧ PlanOk 100 s fs ls ∧ ∀ H' a r, Ex H H' → H a = none → RowAt K C H' a r → (∀ t, r.has t = planHas s fs ls t) → Q (.ref a) H'
def spSomeTick : Sp := fun vs H Q _ => ∃ d, vs = [.ref d] ∧ DAt d H ∧ ∀ H' t, Kp d H H' → DAt d H' → 0 ≤ t → t ≤ 1000000000000000000 → Q (.int t) H'
end
def spLaw (K : PySem.W.Frag) : Sp := fun vs H Q _ => ∃ (a : Addr) (ns : List Int), vs = [.ref a] ∧ SqL K H a (ns.map V.int) ∧ ns.length ≤ 63 ∧ ∀ H', Q (.bl true) H'
end TkL



namespace TkL
open PySem PySem.Spec PySem.Calls PyProof.Rows L2 Tk
section
variable (K : PySem.W.Frag) (C : Addr)
def tPis_int_in : TS := (tRet (tAndV (tCB (kIsi K) (tCons (tVar 0) (tCons (tC (.ty "int")) tNil))) (tAndV (tNotV (tCB (kIsi K) (tCons (tVar 0) (tCons (tC (.ty "bool")) tNil)))) (tChain (rI0 fun i j => V.bl (decide (i ≤ j))) (rI0 fun i j => V.bl (decide (i ≤ j))) (tVar 1) (tVar 0) (tVar 2)))))
def tRinit : TS := (tSeq (sFld K (tVar 0) (tVar 1) "early")
    (tSeq (sFld K (tVar 0) (tVar 2) "begin")
    (tSeq (sFld K (tVar 0) (tVar 3) "length")
    (tSeq (sFld K (tVar 0) (tVar 4) "offsets")
    (tSeq (sFld K (tVar 0) (tDc (iTup K (tVar 4)) (gName 5) tYes (tVar 5) (tC (.bl true)) [5]) "marks")
    (sFld K (tVar 0) (tTup (tCons (tVar 1) (tCons (tVar 2) (tCons (tVar 3) (tCons (tVar 4) tNil))))) "parts"))))))
def tRholds : TS := (tSeq (tIfS (tTest (tOp (rI0 fun i j => V.bl (decide (i < j))) (tVar 1) (tFld K (tVar 0) "begin"))) (tRet (tOp (rIn K false) (tVar 1) (tFld K (tVar 0) "early"))) tNext)
    (tRet (tDIn (tOp (rI (fun _ j => 0 < j) fun i j => V.int (i % j)) (tOp (rI0 fun i j => V.int (i - j)) (tVar 1) (tFld K (tVar 0) "begin")) (tFld K (tVar 0) "length")) (tFld K (tVar 0) "marks"))))
def tRcount : TS := (tSeq (tIfS (tTest (tOp (rI0 fun i j => V.bl (decide (i < j))) (tVar 1) (tFld K (tVar 0) "begin"))) (tRet (tCB (kLen K) (tCons (tLc (iTup K (tFld K (tVar 0) "early")) (gName 4) (tTest (tOp (rI0 fun i j => V.bl (decide (i ≤ j))) (tVar 4) (tVar 1))) (tVar 4) [4]) tNil))) tNext)
    (tSeq (tAsg (tCB kDivmod (tCons (tOp (rI0 fun i j => V.int (i - j)) (tVar 1) (tFld K (tVar 0) "begin")) (tCons (tFld K (tVar 0) "length") tNil))) (gTup K 2 (gCons (gName 2) (gCons (gName 3) gNil))))
    (tRet (tOp (rI0 fun i j => V.int (i + j)) (tOp (rI0 fun i j => V.int (i + j)) (tCB (kLen K) (tCons (tFld K (tVar 0) "early") tNil)) (tOp (rI CMul fun i j => V.int (i * j)) (tVar 2) (tCB (kLen K) (tCons (tFld K (tVar 0) "offsets") tNil)))) (tCB (kLen K) (tCons (tLc (iTup K (tFld K (tVar 0) "offsets")) (gName 4) (tTest (tOp (rI0 fun i j => V.bl (decide (i ≤ j))) (tVar 4) (tVar 3))) (tVar 4) [4]) tNil))))))
def tRcall : TS := (tSeq (tIfS (tNot (tB (tDef (spIii) E0 (tCons (tVar 1) (tCons (tC (.int 0)) (tCons (tC (.int 1000000000000000000)) tNil)))))) tNever tNext)
    (tRet (tMet C "count" (spCount K C) E0 (tVar 0) (tCons (tVar 1) tNil))))
def tRcontains : TS := (tRet (tAndV (tDef (spIii) E0 (tCons (tVar 1) (tCons (tC (.int 0)) (tCons (tC (.int 1000000000000000000)) tNil)))) (tMet C "holds" (spHolds K C) E0 (tVar 0) (tCons (tVar 1) tNil))))
def tRbool : TS := (tRet (tOp (rI0 fun i j => V.bl (decide (j < i))) (tOp (rI0 fun i j => V.int (i + j)) (tCB (kLen K) (tCons (tFld K (tVar 0) "early") tNil)) (tCB (kLen K) (tCons (tFld K (tVar 0) "offsets") tNil))) (tC (.int 0))))
def tRitem : TS := (tSeq (tIfS (tNot (tB (tDef (spIii) E0 (tCons (tVar 1) (tCons (tC (.int 0)) (tCons (tC (.int 1000000000000000000)) tNil)))))) tNever tNext)
    (tSeq (tIfS (tTest (tOp (rI0 fun i j => V.bl (decide (i < j))) (tVar 1) (tCB (kLen K) (tCons (tFld K (tVar 0) "early") tNil)))) (tRet (tOp (rIxT K) (tFld K (tVar 0) "early") (tVar 1))) tNext)
    (tSeq (tIfS (tTest (tOp (rEqD K) (tFld K (tVar 0) "offsets") (tTup tNil))) tNever tNext)
    (tSeq (tAsg (tCB kDivmod (tCons (tOp (rI0 fun i j => V.int (i - j)) (tVar 1) (tCB (kLen K) (tCons (tFld K (tVar 0) "early") tNil))) (tCons (tCB (kLen K) (tCons (tFld K (tVar 0) "offsets") tNil)) tNil))) (gTup K 2 (gCons (gName 2) (gCons (gName 3) gNil))))
    (tRet (tOp (rI0 fun i j => V.int (i + j)) (tOp (rI0 fun i j => V.int (i + j)) (tFld K (tVar 0) "begin") (tOp (rI CMul fun i j => V.int (i * j)) (tVar 2) (tFld K (tVar 0) "length"))) (tOp (rIxT K) (tFld K (tVar 0) "offsets") (tVar 3))))))))
def tRrepetition : TS := (tRet (tTup (tCons (tFld K (tVar 0) "begin") (tCons (tFld K (tVar 0) "length") (tCons (tCB (kLen K) (tCons (tFld K (tVar 0) "offsets") tNil)) tNil)))))
def tRlaps : TS := (tSeq (tAsg (tLst tNil) (gName 1))
    (tSeq (tFor (iEnumA K (tCons (tFld K (tVar 0) "offsets") tNil)) (gTup K 2 (gCons (gName 2) (gCons (gName 3) gNil))) (tSeq (tAsg (tOp rEq (tOp (rI0 fun i j => V.int (i + j)) (tVar 2) (tC (.int 1))) (tCB (kLen K) (tCons (tFld K (tVar 0) "offsets") tNil))) (gName 4))
    (tDrop (tBM K "list" rAppend (tVar 1) (tCons (tOp (rI0 fun i j => V.int (i - j)) (tIf (tB (tVar 4)) (tOp (rI0 fun i j => V.int (i + j)) (tOp (rIxT K) (tFld K (tVar 0) "offsets") (tC (.int 0))) (tFld K (tVar 0) "length")) (tOp (rIxT K) (tFld K (tVar 0) "offsets") (tOp (rI0 fun i j => V.int (i + j)) (tVar 2) (tC (.int 1))))) (tVar 3)) tNil)))))
    (tRet (tCB (kTuple K) (tCons (tVar 1) tNil)))))
def tRfirst_laps : TS := (tSeq (tAsg (tCB (kList K) (tCons (tFld K (tVar 0) "early") tNil)) (gName 1))
    (tSeq (tIfS (tTest (tOp (rNeD K) (tFld K (tVar 0) "offsets") (tTup tNil))) (tDrop (tBM K "list" rAppend (tVar 1) (tCons (tOp (rI0 fun i j => V.int (i + j)) (tFld K (tVar 0) "begin") (tOp (rIxT K) (tFld K (tVar 0) "offsets") (tC (.int 0)))) tNil))) tNext)
    (tRet (tCB (kTuple K) (tCons (tLc (iRng1 (tCons (tOp (rI0 fun i j => V.int (i - j)) (tCB (kLen K) (tCons (tVar 1) tNil)) (tC (.int 1))) tNil)) (gName 2) tYes (tOp (rI0 fun i j => V.int (i - j)) (tOp (rIxL K) (tVar 1) (tOp (rI0 fun i j => V.int (i + j)) (tVar 2) (tC (.int 1)))) (tOp (rIxL K) (tVar 1) (tVar 2))) [2]) tNil)))))
def tPread_number : TS := (tSeq (tIfS (tOr (tNot (tTest (tChain (rI0 fun i j => V.bl (decide (i ≤ j))) (rI0 fun i j => V.bl (decide (i ≤ j))) (tC (.int 1)) (tCB kLenS (tCons (tVar 0) tNil)) (tC (.int 6))))) (tB (tCB (rAny K) (tCons (tLc (iStr (tVar 0)) (gName 1) tYes (tOp rNotInSig (tVar 1) (tC (.str "0123456789"))) [1]) tNil)))) (tRet (tC .non)) tNext)
    (tRet (tIf (tAnd (tTest (tOp (rI0 fun i j => V.bl (decide (j < i))) (tCB kLenS (tCons (tVar 0) tNil)) (tC (.int 1)))) (tTest (tOp rEq (tOp rIxS (tVar 0) (tC (.int 0))) (tC (.str "0"))))) (tC .non) (tCB kIntS (tCons (tVar 0) tNil)))))
def tPticks_of : TS := (tSeq (tAsg (tLst (tCons (tOp (rIxL K) (tVar 0) (tC (.int 0))) tNil)) (gName 1))
    (tSeq (tFor (iList K (L2.tSl (rSlL K) (tVar 0) (tPart (tC (.int 1))) tNoPart)) (gName 2) (tDrop (tBM K "list" rAppend (tVar 1) (tCons (tOp (rI0 fun i j => V.int (i + j)) (tOp (rIxL K) (tVar 1) (tUn (rU fun i => V.int (-i)) (tC (.int 1)))) (tVar 2)) tNil))))
    (tRet (tVar 1))))
def tProw_of_ticks : TS := (tRet (tDef (spNormal K C) E0 (tCons (tVar 0) (tCons (tOp (rI0 fun i j => V.int (i + j)) (tOp (rIxL K) (tVar 0) (tUn (rU fun i => V.int (-i)) (tC (.int 1)))) (tC (.int 1))) (tCons (tC (.int 1)) (tCons (tLst tNil) tNil))))))
def tProw_of_laps : TS := (tSeq (tAsg (tDef (spTicksOf K) E0 (tCons (tOp rCat (tLst (tCons (tVar 0) tNil)) (tCB (kList K) (tCons (tVar 1) tNil))) tNil)) (gName 3))
    (tSeq (tAsg (tBM0 K "list" rPop (tVar 3)) (gName 4))
    (tSeq (tAsg (tDef (spTicksOf K) E0 (tCons (tOp rCat (tLst (tCons (tC (.int 0)) tNil)) (tCB (kList K) (tCons (tVar 2) tNil))) tNil)) (gName 5))
    (tSeq (tAsg (tBM0 K "list" rPop (tVar 5)) (gName 6))
    (tRet (tDef (spNormal K C) E0 (tCons (tVar 3) (tCons (tVar 4) (tCons (tVar 6) (tCons (tVar 5) tNil))))))))))
def tPshortest : TS := (tSeq (tAsg (tDc (iSeq K (tVar 1)) (gName 4) tYes (tVar 4) (tC (.bl true)) [4]) (gName 2))
    (tSeq (tFor (iRng2 (tCons (tC (.int 1)) (tCons (tVar 0) tNil))) (gName 3) (tIfS (tAnd (tTest (tOp rEq (tOp (rI (fun _ j => 0 < j) fun i j => V.int (i % j)) (tVar 0) (tVar 3)) (tC (.int 0)))) (tB (tCB (rAll K) (tCons (tLc (iSeq K (tVar 1)) (gName 4) tYes (tDIn (tOp (rI (fun _ j => 0 < j) fun i j => V.int (i % j)) (tOp (rI0 fun i j => V.int (i + j)) (tVar 4) (tVar 3)) (tVar 0)) (tVar 2)) [4]) tNil)))) (tRet (tVar 3)) tNext))
    (tRet (tVar 0))))
def tPnormal : TS := (tSeq (tIfS (tTest (tOp rEq (tCB (kLen K) (tCons (tVar 3) tNil)) (tC (.int 0)))) (tRet (tMk C (spInit K C) E0 (tCons (tCB (kTuple K) (tCons (tVar 0) tNil)) (tCons (tIf (tTest (tOp (rI0 fun i j => V.bl (decide (j < i))) (tCB (kLen K) (tCons (tVar 0) tNil)) (tC (.int 0)))) (tOp (rI0 fun i j => V.int (i + j)) (tOp (rIxL K) (tVar 0) (tUn (rU fun i => V.int (-i)) (tC (.int 1)))) (tC (.int 1))) (tC (.int 0))) (tCons (tC (.int 1)) (tCons (tTup tNil) tNil)))))) tNext)
    (tSeq (tAsg (tDef (spShortest K) E0 (tCons (tVar 2) (tCons (tVar 3) tNil))) (gName 4))
    (tSeq (tAsg (tDc (iSeq K (tVar 3)) (gName 11) tYes (tOp (rI (fun _ j => 0 < j) fun i j => V.int (i % j)) (tVar 11) (tVar 4)) (tC (.bl true)) [11]) (gName 5))
    (tSeq (tAsg (tTup (tCons (tVar 1) (tCons (tC (.int 0)) (tCons (tCB (kLen K) (tCons (tVar 0) tNil)) tNil)))) (gTup K 3 (gCons (gName 6) (gCons (gName 7) (gCons (gName 8) gNil)))))
    (tSeq (tWhile (tTest (tOp (rI0 fun i j => V.bl (decide (j < i))) (tVar 6) (tC (.int 0)))) (tSeq (tAsg (tAndV (tOp (rI0 fun i j => V.bl (decide (j < i))) (tVar 8) (tC (.int 0))) (tOp rEq (tOp (rIxL K) (tVar 0) (tOp (rI0 fun i j => V.int (i - j)) (tVar 8) (tC (.int 1)))) (tOp (rI0 fun i j => V.int (i - j)) (tVar 6) (tC (.int 1))))) (gName 10))
    (tSeq (tIfS (tTest (tOp rNe (tVar 10) (tDIn (tOp (rI (fun _ j => 0 < j) fun i j => V.int (i % j)) (tOp (rI0 fun i j => V.int (i - j)) (tUn (rU fun i => V.int (-i)) (tC (.int 1))) (tVar 7)) (tVar 4)) (tVar 5)))) tBreak tNext)
    (tAsg (tTup (tCons (tOp (rI0 fun i j => V.int (i - j)) (tVar 6) (tC (.int 1))) (tCons (tOp (rI0 fun i j => V.int (i + j)) (tVar 7) (tC (.int 1))) (tCons (tOp (rI0 fun i j => V.int (i - j)) (tVar 8) (tCB kInt (tCons (tVar 10) tNil))) tNil)))) (gTup K 3 (gCons (gName 6) (gCons (gName 7) (gCons (gName 8) gNil))))))))
    (tSeq (tLock (tAsg (tLc (iKeys (tVar 5)) (gName 12) tYes (tOp (rI (fun _ j => 0 < j) fun i j => V.int (i % j)) (tOp (rI0 fun i j => V.int (i + j)) (tVar 12) (tVar 7)) (tVar 4)) [12]) (gName 9)))
    (tRet (tMk C (spInit K C) E0 (tCons (tCB (kTuple K) (tCons (L2.tSl (rSlL K) (tVar 0) tNoPart (tPart (tVar 8))) tNil)) (tCons (tVar 6) (tCons (tVar 4) (tCons (tCB (kTuple K) (tCons (tCB (rSortedI K) (tCons (tLc (iList K (tVar 9)) (gName 12) tYes (tCB kInt (tCons (tVar 12) tNil)) [12]) tNil)) tNil)) tNil))))))))))))
def tRparse : TS := (tSeq (tIfS (tTest (tOp rEq (tVar 1) (tC (.str "never")))) (tRet (tMkV 0 C (spInit K C) E0 (tCons (tTup tNil) (tCons (tC (.int 0)) (tCons (tC (.int 1)) (tCons (tTup tNil) tNil)))))) tNext)
    (tSeq (tAsg (tBM K "str" mSplit (tVar 1) (tCons (tC (.str " ")) tNil)) (gName 2))
    (tSeq (tPar 3 4 (tCons (tLst tNil) (tCons (tC .non) tNil)))
    (tSeq (tFor (iEnumA K (tCons (tVar 2) tNil)) (gTup K 2 (gCons (gName 5) (gCons (gName 6) gNil))) (tIfS (tAnd (tTest (tOp rEq (tVar 6) (tC (.str "|")))) (tAnd (tTest (tOp rIsNon (tVar 4) (tC .non))) (tTest (tOp (rI0 fun i j => V.bl (decide (j < i))) (tVar 5) (tC (.int 0)))))) (tAsg (tCB (kLen K) (tCons (tVar 3) tNil)) (gName 4)) (tSeq (tAsg (tDef (spReadNumber) E0 (tCons (tVar 6) tNil)) (gName 7))
    (tSeq (tIfS (tOr (tTest (tOp rIsNon (tVar 7) (tC .non))) (tOr (tAnd (tTest (tOp rEq (tVar 7) (tC (.int 0)))) (tTest (tOp (rI0 fun i j => V.bl (decide (j < i))) (tVar 5) (tC (.int 0))))) (tTest (tOp (rI0 fun i j => V.bl (decide (j < i))) (tVar 7) (tC (.int 100000)))))) tNever tNext)
    (tSeq (tDrop (tBM K "list" rAppend (tVar 3) (tCons (tVar 7) tNil)))
    (tIfS (tOr (tAnd (tTest (tOp rIsNon (tVar 4) (tC .non))) (tTest (tOp (rI0 fun i j => V.bl (decide (j < i))) (tCB (rSum K) (tCons (tVar 3) tNil)) (tC (.int 100000))))) (tAnd (tTest (tOp rNotNon (tVar 4) (tC .non))) (tTest (tOp (rI0 fun i j => V.bl (decide (j < i))) (tCB (rSum K) (tCons (L2.tSl (rSlL K) (tVar 3) (tPart (tVar 4)) tNoPart) tNil)) (tC (.int 20000)))))) tNever tNext))))))
    (tSeq (tIfS (tTest (tOp rIsNon (tVar 4) (tC .non))) (tRet (tDef (spRowOfTicks K C) E0 (tCons (tDef (spTicksOf K) E0 (tCons (tVar 3) tNil)) tNil))) tNext)
    (tSeq (tIfS (tTest (tOp rEq (tVar 4) (tCB (kLen K) (tCons (tVar 3) tNil)))) tNever tNext)
    (tRet (tDef (spRowOfLaps K C) E0 (tCons (tOp (rIxL K) (tVar 3) (tC (.int 0))) (tCons (L2.tSl (rSlL K) (tVar 3) (tPart (tC (.int 1))) (tPart (tVar 4))) (tCons (L2.tSl (rSlL K) (tVar 3) (tPart (tVar 4)) tNoPart) tNil)))))))))))
def tLrandom : TS := (tSeq (tAsg (tVar 1) (gName 2))
    (tSeq (tFor (iList K (tVar 0)) (gName 3) (tAsg (tOp (rI (fun _ j => 0 < j) fun i j => V.int (i % j)) (tOp (rI0 fun i j => V.int (i + j)) (tOp (rI CMul fun i j => V.int (i * j)) (tVar 2) (tC (.int 31))) (tCB kAbs (tCons (tVar 3) tNil))) (tC (.int 2147483647))) (gName 2)))
    (tRet (tOp rCat (tLst (tCons (tVar 2) (tCons (tC (.int 0)) tNil))) (tLc (iList K (tVar 0)) (gName 3) (tTest (tOp (rI0 fun i j => V.bl (decide (j ≤ i))) (tVar 3) (tOp (rI CPow fun i j => V.int (i ^ j.toNat)) (tC (.int 10)) (tC (.int 18))))) (tVar 3) [3])))))
def tLbelow : TS := (tSeq (tIfS (tAnd (tTest (tOp rEq (tOp (rIxL K) (tVar 0) (tC (.int 1))) (tC (.int 0)))) (tTest (tOp (rI0 fun i j => V.bl (decide (j < i))) (tCB (kLen K) (tCons (tVar 0) tNil)) (tC (.int 2))))) (tAsg (tBM K "list" rPopAt (tVar 0) (tCons (tC (.int 2)) tNil)) (gSub (tVar 0) (tC (.int 1)) rSetL)) tNext)
    (tSeq (tIfS (tTest (tOp (rI0 fun i j => V.bl (decide (j < i))) (tOp (rIxL K) (tVar 0) (tC (.int 1))) (tC (.int 0)))) (tSeq (tAsg (tOp (rI (fun _ j => 0 < j) fun i j => V.int (i % j)) (tOp (rIxL K) (tVar 0) (tC (.int 1))) (tVar 1)) (gName 2))
    (tSeq (tAsg (tOp (rI CDiv fun i j => V.int (i / j)) (tOp (rIxL K) (tVar 0) (tC (.int 1))) (tVar 1)) (gSub (tVar 0) (tC (.int 1)) rSetL))
    (tRet (tVar 2)))) tNext)
    (tSeq (tAsg (tOp (rI (fun _ j => 0 < j) fun i j => V.int (i % j)) (tOp (rI0 fun i j => V.int (i + j)) (tOp (rI CMul fun i j => V.int (i * j)) (tOp (rIxL K) (tVar 0) (tC (.int 0))) (tC (.int 48271))) (tC (.int 11))) (tC (.int 2147483647))) (gSub (tVar 0) (tC (.int 0)) rSetL))
    (tRet (tOp (rI (fun _ j => 0 < j) fun i j => V.int (i % j)) (tOp (rI CDiv fun i j => V.int (i / j)) (tOp (rIxL K) (tVar 0) (tC (.int 0))) (tC (.int 64))) (tVar 1))))))
def tLlaps : TS := (tSeq (tAsg (tOp (rIxL K) (tLst (tCons (tC (.int 3)) (tCons (tC (.int 9)) (tCons (tC (.int 60)) tNil)))) (tDef (spBelow) E0 (tCons (tVar 0) (tCons (tC (.int 3)) tNil)))) (gName 2))
    (tRet (tCB (kTuple K) (tCons (tLc (iRng1 (tCons (tOp (rI0 fun i j => V.int (i + j)) (tC (.int 1)) (tDef (spBelow) E0 (tCons (tVar 0) (tCons (tVar 1) tNil)))) tNil)) (gName 3) tYes (tOp (rI0 fun i j => V.int (i + j)) (tC (.int 1)) (tDef (spBelow) E0 (tCons (tVar 0) (tCons (tVar 2) tNil)))) [3]) tNil))))
def tLplan : TS := (tSeq (tAsg (tIf (tTest (tOp rEq (tDef (spBelow) E0 (tCons (tVar 0) (tCons (tC (.int 2)) tNil))) (tC (.int 0)))) (tTup tNil) (tDef (spLawLaps) E0 (tCons (tVar 0) (tCons (tC (.int 3)) tNil)))) (gName 2))
    (tRet (tTup (tCons (tDef (spBelow) E0 (tCons (tVar 0) (tCons (tOp (rIxL K) (tLst (tCons (tC (.int 9)) (tCons (tC (.int 60)) tNil))) (tDef (spBelow) E0 (tCons (tVar 0) (tCons (tC (.int 2)) tNil)))) tNil))) (tCons (tVar 2) (tCons (tDef (spLawLaps) E0 (tCons (tVar 0) (tCons (tVar 1) tNil))) tNil))))))
def tLrow : TS := (tSeq (tAsg (tVar 0) (gTup K 3 (gCons (gName 1) (gCons (gName 2) (gCons (gName 3) gNil)))))
    (tRet (ClX.tCMeth C (spParse K C) E0 (tC (.ref C)) (tCons (tBM K "str" (mJoin K) (tC (.str " ")) (tCons (tOp rCat (tOp rCat (tLc (iTup K (tOp (rCatA K) (tTup (tCons (tVar 1) tNil)) (tVar 2))) (gName 5) tYes (tCB kStr (tCons (tVar 5) tNil)) [5]) (tLst (tCons (tC (.str "|")) tNil))) (tLc (iTup K (tVar 3)) (gName 4) tYes (tCB kStr (tCons (tVar 4) tNil)) [4])) tNil)) tNil))))
def tLsome_tick : TS := (tRet (tOp (rIxL K) (tLst (tCons (tDef (spBelow) E0 (tCons (tVar 0) (tCons (tC (.int 300)) tNil))) (tCons (tOp (rI0 fun i j => V.int (i - j)) (tOp (rI CPow fun i j => V.int (i ^ j.toNat)) (tC (.int 10)) (tC (.int 18))) (tDef (spBelow) E0 (tCons (tVar 0) (tCons (tOp (rI CPow fun i j => V.int (i ^ j.toNat)) (tC (.int 10)) (tC (.int 6))) tNil)))) tNil))) (tDef (spBelow) E0 (tCons (tVar 0) (tCons (tC (.int 2)) tNil)))))
def tRis_endless : TS := (tRet (tOp (rNeD K) (tFld K (tVar 0) "offsets") (tTup tNil)))
def tReq : TS := (tRet (tAndV (tCB (kIsi K) (tCons (tVar 1) (tCons (tC (.ref C)) tNil))) (tOp (rEqD K) (tFld K (tVar 0) "parts") (tFld K (tVar 1) "parts"))))
end
end TkL


local macro_rules | `(tactic| walk_at "rd") => `(tactic| repeat (first
  | (with_reducible refine TkL.x_seq ?_) | ((with_reducible refine TkL.x_next ?_); dsimp only) | (with_reducible refine TkL.x_drop ?_) | ((with_reducible refine TkL.x_ret ?_); dsimp only) | ((with_reducible refine TkL.x_retN ?_); dsimp only) | (with_reducible refine TkL.x_ifS ?_)
  | (with_reducible refine TkL.x_asg ?_) | (with_reducible refine TkL.x_name ?_) | (with_reducible refine TkL.x_c ?_) | (with_reducible refine TkL.x_op ?_) | (with_reducible refine TkL.x_un ?_) | (with_reducible refine TkL.x_rI0 ?_) | (with_reducible refine TkL.x_rU ?_)
  | (with_reducible refine TkL.x_nil ?_) | (with_reducible refine TkL.x_cons ?_) | (with_reducible refine TkL.x_notV ?_) | (with_reducible refine TkL.x_andV ?_) | (with_reducible refine TkL.x_orV ?_) | (with_reducible refine TkL.x_exB ?_) | (with_reducible refine TkL.x_exI ?_)
  | (with_reducible refine TkL.x_if ?_) | (with_reducible refine TkL.x_B ?_) | (with_reducible refine TkL.x_test ?_) | (with_reducible refine TkL.x_and ?_) | (with_reducible refine TkL.x_or ?_) | (with_reducible refine TkL.x_not ?_) | (with_reducible refine TkL.x_chain ?_)
  | (with_reducible refine TkL.x_cb ?_) | (with_reducible refine TkL.x_def ?_) | (with_reducible refine TkL.x_par ?_) | (with_reducible refine TkL.x_parEx ?_) | (with_reducible refine TkL.x_par3 ?_) | (with_reducible refine TkL.x_par3Ex ?_) | (with_reducible refine TkL.x_fld ?_) | (with_reducible refine TkL.x_sfld ?_) | (with_reducible refine TkL.x_met ?_) | (with_reducible refine TkL.x_prp ?_)
  | (with_reducible refine TkL.x_bm ?_) | (with_reducible refine TkL.x_bm0 ?_) | (with_reducible refine TkL.x_sl ?_) | (with_reducible refine TkL.x_noPart ?_) | (with_reducible refine TkL.x_part ?_) | (with_reducible refine TkL.x_ins ?_) | (with_reducible refine TkL.x_mk ?_) | (with_reducible refine TkL.x_exR ?_)
  | ((with_reducible refine TkL.x_break ?_); dsimp only) | ((with_reducible refine TkL.x_cont ?_); dsimp only) | (with_reducible refine TkL.x_kint ?_) | (with_reducible refine TkL.x_kintb ?_) | (with_reducible refine TkL.x_isNonT ?_) | (with_reducible refine TkL.x_notNonT ?_)
  | (with_reducible refine TkL.x_lst0 ?_) | (with_reducible refine TkL.x_tup0 ?_)
  | ((with_reducible refine TkL.x_aug (v := ?_) ?_ ?_); rotate_left; exact rfl) | (with_reducible refine TkL.x_ipI ?_)
  | ((with_reducible refine TkL.x_var (v := ?_) ?_ ?_); rotate_left; exact rfl)))
namespace TkL
open PySem PySem.Spec PySem.Calls PyProof.Rows L2 Tk

theorem ex_of {H H' : Hp} {p : Addr} {o : HO} (h : upd H p o = H') (hp : H p = none) : Ex H H' := by subst h; exact Ex.new hp
theorem at_of {H H' : Hp} {p : Addr} {o : HO} (h : upd H p o = H') : H' p = some o := by subst h; exact upd_same
section
variable {K : PySem.W.Frag} {C : Addr} {H H' : Hp} {a dx p1 p2 p3 p4 : Addr} {r : RV} {Q : VK}
theorem RowI.ex (I : RowI K C H a r dx p1 p2 p3 p4) (e : Ex H H') : RowI K C H' a r dx p1 p2 p3 p4 := ⟨e _ _ I.ob, e.sqT I.e, e.sqT I.o, e _ _ I.m, e.sqT I.p, I.rb⟩
theorem RowAt.ex (I : RowAt K C H a r) (e : Ex H H') : RowAt K C H' a r := by
  obtain ⟨dx, p1, p2, p3, p4, I⟩ := I
  exact ⟨dx, p1, p2, p3, p4, I.ex e⟩
theorem lk_early {x y z u v w : V} : ([("early", x), ("begin", y), ("length", z), ("offsets", u), ("marks", v), ("parts", w)] : List (Str × V)).lookup (("early" : Str)) = some x := rfl
theorem lk_begin {x y z u v w : V} : ([("early", x), ("begin", y), ("length", z), ("offsets", u), ("marks", v), ("parts", w)] : List (Str × V)).lookup (("begin" : Str)) = some y := rfl
theorem lk_length {x y z u v w : V} : ([("early", x), ("begin", y), ("length", z), ("offsets", u), ("marks", v), ("parts", w)] : List (Str × V)).lookup (("length" : Str)) = some z := rfl
theorem lk_offsets {x y z u v w : V} : ([("early", x), ("begin", y), ("length", z), ("offsets", u), ("marks", v), ("parts", w)] : List (Str × V)).lookup (("offsets" : Str)) = some u := rfl
theorem lk_marks {x y z u v w : V} : ([("early", x), ("begin", y), ("length", z), ("offsets", u), ("marks", v), ("parts", w)] : List (Str × V)).lookup (("marks" : Str)) = some v := rfl
theorem lk_parts {x y z u v w : V} : ([("early", x), ("begin", y), ("length", z), ("offsets", u), ("marks", v), ("parts", w)] : List (Str × V)).lookup (("parts" : Str)) = some w := rfl
variable (T : TyF K C) (I : RowI K C H a r dx p1 p2 p3 p4)
include T I
theorem fl_early {Q : V → Prop} (h : Q (.ref p1)) : ∃ a' C' dx' fs v, V.ref a = .ref a' ∧ H a' = some (.ins C' dx' fs) ∧ Cls K C' ∧ NoAttr K C' "early" ∧ fs.lookup (("early" : Str)) = some v ∧ Q v := ⟨_, _, _, _, _, rfl, I.ob, T.cl, T.early, lk_early, h⟩
theorem fl_begin {Q : V → Prop} (h : Q (.int r.beg)) : ∃ a' C' dx' fs v, V.ref a = .ref a' ∧ H a' = some (.ins C' dx' fs) ∧ Cls K C' ∧ NoAttr K C' "begin" ∧ fs.lookup (("begin" : Str)) = some v ∧ Q v := ⟨_, _, _, _, _, rfl, I.ob, T.cl, T.begin_, lk_begin, h⟩
theorem fl_length {Q : V → Prop} (h : Q (.int r.len)) : ∃ a' C' dx' fs v, V.ref a = .ref a' ∧ H a' = some (.ins C' dx' fs) ∧ Cls K C' ∧ NoAttr K C' "length" ∧ fs.lookup (("length" : Str)) = some v ∧ Q v := ⟨_, _, _, _, _, rfl, I.ob, T.cl, T.length, lk_length, h⟩
theorem fl_offsets {Q : V → Prop} (h : Q (.ref p2)) : ∃ a' C' dx' fs v, V.ref a = .ref a' ∧ H a' = some (.ins C' dx' fs) ∧ Cls K C' ∧ NoAttr K C' "offsets" ∧ fs.lookup (("offsets" : Str)) = some v ∧ Q v := ⟨_, _, _, _, _, rfl, I.ob, T.cl, T.offsets, lk_offsets, h⟩
theorem fl_marks {Q : V → Prop} (h : Q (.ref p3)) : ∃ a' C' dx' fs v, V.ref a = .ref a' ∧ H a' = some (.ins C' dx' fs) ∧ Cls K C' ∧ NoAttr K C' "marks" ∧ fs.lookup (("marks" : Str)) = some v ∧ Q v := ⟨_, _, _, _, _, rfl, I.ob, T.cl, T.marks, lk_marks, h⟩
theorem fl_parts {Q : V → Prop} (h : Q (.ref p4)) : ∃ a' C' dx' fs v, V.ref a = .ref a' ∧ H a' = some (.ins C' dx' fs) ∧ Cls K C' ∧ NoAttr K C' "parts" ∧ fs.lookup (("parts" : Str)) = some v ∧ Q v := ⟨_, _, _, _, _, rfl, I.ob, T.cl, T.parts, lk_parts, h⟩
end
section
variable {K : PySem.W.Frag} {C : Addr} {H : Hp} {Q : VK}
theorem zI_len {l : List Int} : (zI l).length = l.length := List.length_map _
theorem zI_get {l : List Int} {i : Nat} {x : V} (h : (zI l)[i]? = some x) : ∃ n, l[i]? = some n ∧ x = .int n := by
  unfold zI at h
  rw [List.getElem?_map] at h
  cases e : l[i]? with
  | none => rw [e] at h; cases h
  | some n => rw [e] at h; exact ⟨n, rfl, (Option.some.inj h).symm⟩
theorem kisi {x t : V} {tv cv : Value} {b : Bool} (ht : TyX K H x tv) (hc : ClsV t cv) (e : PySem.W.kitOne K tv cv = some b) (h : Q (.bl b) H) : kIsi K [x, t] H Q := ⟨_, _, _, _, _, rfl, hc, ht, e, h⟩
theorem x_len {p : Addr} {ys : List V} (s : Seq K H p ys) (h : Q (.int ys.length) H) : kLen K [.ref p] H Q := ⟨p, ys, rfl, s, h⟩
theorem x_lenT {p : Addr} {ys : List Int} (s : SqT K H p (zI ys)) (h : Q (.int ys.length) H) : kLen K [.ref p] H Q := ⟨p, _, rfl, .inr s, by rw [zI_len]; exact h⟩
theorem x_lenL {p : Addr} {ys : List Int} (s : SqL K H p (zI ys)) (h : Q (.int ys.length) H) : kLen K [.ref p] H Q := ⟨p, _, rfl, .inl s, by rw [zI_len]; exact h⟩
theorem inV_zI {t : Int} {l : List Int} : inV (.int t) (zI l) = decide (t ∈ l) := by
  unfold inV zI
  rw [Bool.eq_iff_iff, decide_eq_true_iff, List.any_eq_true]
  constructor
  · rintro ⟨y, hy, e⟩
    obtain ⟨n, hn, rfl⟩ := List.mem_map.mp hy
    have : n = t := by simpa [eqV] using e
    rw [← this]; exact hn
  · intro h
    exact ⟨.int t, List.mem_map.mpr ⟨t, h, rfl⟩, by simp [eqV]⟩
theorem flat_zI {l : List Int} : (zI l).all flatV = true := by
  unfold zI
  rw [List.all_eq_true]
  intro x hx
  obtain ⟨n, _, rfl⟩ := List.mem_map.mp hx
  rfl
theorem x_inT {p : Addr} {l : List Int} {t : Int} (s : SqT K H p (zI l)) (h : Q (.bl (decide (t ∈ l))) H) : rIn K false (.int t) (.ref p) H Q := ⟨p, _, rfl, .inr s, rfl, flat_zI, by rw [if_neg Bool.false_ne_true, inV_zI]; exact h⟩
theorem x_din {ty td : TE} {σ : L2.St} {t : Int} {p : Addr} {o : List Int} (hy : ∀ P : VK, P (.int t) H → ty σ H P) (hd : ∀ P : VK, P (.ref p) H → td σ H P) (hm : Rd H p (.dK (mkD o))) (h : Q (.bl (decide (t ∈ o))) H) : tDIn ty td σ H Q :=
  hy _ (hd _ ⟨p, _, rfl, .inl ⟨_, Sum.inl t, hm, rfl, rfl⟩, by rw [mkD_has]; exact h⟩)
end
section
variable {K : PySem.W.Frag} {C : Addr}
theorem rdPis_int_in (T : TyF K C) (vs : List V) (H : Hp) (Q : VK) (E : XK) (h : spIii vs H Q E) : tPis_int_in K { nx := fun _ H' => Q .non H', rt := Q } (start ["value", "low", "high"] vs) H := by
  obtain ⟨x, lo, hi, rfl, h⟩ := h
  unfold tPis_int_in
  walk_at "rd"
  rcases h with ⟨i, rfl, h⟩ | ⟨⟨b, rfl⟩ | rfl | ⟨z, rfl⟩, h⟩
  · refine kisi (.base (.int i)) (.ty "int") T.int_int ?_
    walk_at "rd"
    refine iteT ?_
    walk_at "rd"
    refine kisi (.base (.int i)) (.ty "bool") T.int_bool ?_
    walk_at "rd"
    refine iteT ?_
    walk_at "rd"
    refine x_iteD (fun c => ?_) (fun c => ?_)
    · walk_at "rd"
      rw [decide_eq_true c, Bool.true_and] at h
      exact h
    · rw [decide_eq_false c, Bool.false_and] at h
      exact h
  · refine kisi (.base (.bl b)) (.ty "int") T.bool_int ?_
    walk_at "rd"
    refine iteT ?_
    walk_at "rd"
    refine kisi (.base (.bl b)) (.ty "bool") T.bool_bool ?_
    walk_at "rd"
    exact iteF h
  · refine kisi (.base .non) (.ty "int") T.none_int ?_
    walk_at "rd"
    exact iteF h
  · refine kisi (.base (.str z)) (.ty "int") T.str_int ?_
    walk_at "rd"
    exact iteF h
theorem rdRholds (T : TyF K C) (vs : List V) (H : Hp) (Q : VK) (E : XK) (h : spHolds K C vs H Q E) : tRholds K { nx := fun _ H' => Q .non H', rt := Q } (start ["self", "tick"] vs) H := by
  obtain ⟨a, t, r, rfl, ⟨dx, p1, p2, p3, p4, I⟩, h⟩ := h
  unfold tRholds
  walk_at "rd"
  refine fl_begin T I ?_
  walk_at "rd"
  refine x_iteD (fun c => ?_) (fun c => ?_)
  · walk_at "rd"
    refine fl_early T I ?_
    walk_at "rd"
    refine x_inT I.e ?_
    rw [RV.has_lo c] at h
    exact h
  · walk_at "rd"
    refine x_din (t := (t - r.beg) % r.len) (p := p3) (o := r.offs) (fun P q => ?_) (fun P q => ?_) (.inl I.m) ?_
    · walk_at "rd"
      refine fl_begin T I ?_
      walk_at "rd"
      refine fl_length T I ?_
      exact x_rI (by have := I.rb.c.wf.l1; show 0 < r.len; omega) q
    · walk_at "rd"
      exact fl_marks T I q
    · rw [RV.has_hi (by omega)] at h
      exact h
end
end TkL


namespace TkL
open PySem PySem.Spec PySem.Calls PyProof.Rows L2 Tk
section
variable {K : PySem.W.Frag} {C : Addr} {H : Hp} {Q : VK} {σ : L2.St} {wi : TI} {g : TG} {tt : TT} {te tl : TE} {vs : List Nat}
def onI (p : Int → Bool) : V → Bool
  | .int n => p n
  | _ => false
def mapI (f : Int → V) : V → V
  | .int n => f n
  | x => x
theorem mapInt {xs : List Int} {p : Int → Bool} {f : Int → V} : ((zI xs).filter (onI p)).map (mapI f) = (xs.filter p).map f := by
  unfold zI
  induction xs with
  | nil => rfl
  | cons a l ih =>
    have e : onI p (V.int a) = p a := rfl
    rw [List.map_cons, List.filter_cons, List.filter_cons, e]
    cases p a with
    | true => rw [if_pos rfl, if_pos rfl, List.map_cons, List.map_cons, ih]; rfl
    | false => rw [if_neg Bool.false_ne_true, if_neg Bool.false_ne_true, ih]
theorem zI_mem {l : List Int} {i : Nat} {x : V} (h : (zI l)[i]? = some x) : ∃ n, n ∈ l ∧ x = .int n := by
  obtain ⟨n, hn, e⟩ := zI_get h
  exact ⟨n, List.mem_of_getElem? hn, e⟩
theorem lcfI {J : It} {H1 : Hp} {xs : List Int} (W : Wk J H1 (zI xs)) {j : Nat} {tt : TT} {te : TE} {σ : L2.St} {Q : Addr → Hp → Prop} (p : Int → Bool) (f : Int → V) (hz : xs.length ≤ 1000000)
    (ht : ∀ n H' (Qb : Bool → Hp → Prop), n ∈ xs → Ex H1 H' → Qb (p n) H' → tt ((wipe σ [j]).set j (some (.int n))) H' Qb)
    (hv : ∀ n H' (Qv : VK), n ∈ xs → p n = true → Ex H1 H' → Qv (f n) H' → te ((wipe σ [j]).set j (some (.int n))) H' Qv)
    (hd : ∀ D H', Ex H1 H' → H1 D = none → H' D = some (.lst ((xs.filter p).map f)) → Q D H') :
    ∀ D, H1 D = none → ∃ W : Nat → Nat → Hp → Prop, (∃ m, W 0 m (upd H1 D (.lst []))) ∧ ∀ i m H, W i m H →
      (J.stop i H ∧ Q D H) ∨ (J.go i H ∧ ∃ Nx : Hp → Prop, (∀ H', Nx H' → ∃ m', m' < m ∧ W (i + 1) m' H') ∧ ∀ x H', J.yld i H x H' → gName j x (wipe σ [j]) H' fun σ2 H2 => wipe σ2 [j] = wipe σ [j] ∧ tt σ2 H2 fun b H3 =>
        if b = true then te σ2 H3 fun y H4 => ∃ acc, H4 D = some (.lst acc) ∧ acc.length < sizeLine ∧ Nx (upd H4 D (.lst (acc ++ [y]))) else Nx H3) := by
  refine lcf W (onI p) (mapI f) (by rw [zI_len]; exact hz) (fun i x H' Qb hx e q => ?_) (fun i x H' Qv hx hp e q => ?_) (fun D H' e h1 h2 => ?_)
  · obtain ⟨n, hn, rfl⟩ := zI_mem hx
    exact ht n H' Qb hn e q
  · obtain ⟨n, hn, rfl⟩ := zI_mem hx
    exact hv n H' Qv hn hp e q
  · rw [mapInt] at h2
    exact hd D H' e h1 h2
theorem x_lc (h : wi σ H fun J H1 => ∀ D, H1 D = none → ∃ W : Nat → Nat → Hp → Prop, (∃ m, W 0 m (upd H1 D (.lst []))) ∧ ∀ i m H, W i m H →
      (J.stop i H ∧ Q (.ref D) H) ∨ (J.go i H ∧ ∃ Nx : Hp → Prop, (∀ H', Nx H' → ∃ m', m' < m ∧ W (i + 1) m' H') ∧ ∀ x H', J.yld i H x H' → g x (wipe σ vs) H' fun σ2 H2 => wipe σ2 vs = wipe σ vs ∧ tt σ2 H2 fun b H3 =>
        if b = true then te σ2 H3 fun y H4 => ∃ acc, H4 D = some (.lst acc) ∧ acc.length < sizeLine ∧ Nx (upd H4 D (.lst (acc ++ [y]))) else Nx H3)) : tLc wi g tt te vs σ H Q := h
theorem x_dc {tk tv : TE} (h : wi σ H fun J H1 => ∀ D, H1 D = none → ∃ W : Nat → Nat → Hp → Prop, (∃ m, W 0 m (upd H1 D (.dK []))) ∧ ∀ i m H, W i m H →
      (J.stop i H ∧ Q (.ref D) H) ∨ (J.go i H ∧ ∃ Nx : Hp → Prop, (∀ H', Nx H' → ∃ m', m' < m ∧ W (i + 1) m' H') ∧ ∀ x H', J.yld i H x H' → g x (wipe σ vs) H' fun σ2 H2 => wipe σ2 vs = wipe σ vs ∧ tt σ2 H2 fun b H3 =>
        if b = true then tk σ2 H3 fun y H4 => tv σ2 H4 fun z H5 => ∃ kvs k, y = kV k ∧ H5 D = some (.dK kvs) ∧ kvs.length < sizeLine ∧ Nx (upd H5 D (.dK (putK kvs k z))) else Nx H3)) : tDc wi g tt tk tv vs σ H Q := h
theorem x_itup {R : It → Hp → Prop} (h : tl σ H fun x H1 => ∃ a, x = .ref a ∧ (∃ xs, SqT K H1 a xs) ∧ R (Itt K a) H1) : iTup K tl σ H R := h
theorem x_ilist {R : It → Hp → Prop} (h : tl σ H fun x H1 => ∃ a, x = .ref a ∧ (∃ xs, SqL K H1 a xs) ∧ R (Itl K a) H1) : iList K tl σ H R := h
theorem x_itA {p : Addr} {xs : List V} {P : Addr → Prop} (s : SqT K H p xs) (h : P p) : ∃ a, V.ref p = .ref a ∧ (∃ xs, SqT K H a xs) ∧ P a := ⟨p, rfl, ⟨_, s⟩, h⟩
theorem x_ilA {p : Addr} {xs : List V} {P : Addr → Prop} (s : SqL K H p xs) (h : P p) : ∃ a, V.ref p = .ref a ∧ (∃ xs, SqL K H a xs) ∧ P a := ⟨p, rfl, ⟨_, s⟩, h⟩
theorem x_yes {Q : Bool → Hp → Prop} (h : Q true H) : tYes σ H Q := h
theorem x_exIL {P : List V → Prop} {l : List V} (h : P l) : ∃ x, some (HO.lst l) = some (.lst x) ∧ P x := ⟨l, rfl, h⟩
theorem len_of_range : ∀ {l : List Int} {b c : Int}, l.Pairwise (· < ·) → (∀ x ∈ l, b ≤ x ∧ x < c) → b ≤ c → (l.length : Int) ≤ c - b
  | [], b, c, _, _, h => by simp; omega
  | a :: l, b, c, hp, hr, h => by
    have ha := hr a List.mem_cons_self
    have := len_of_range (b := a + 1) (c := c) (List.pairwise_cons.mp hp).2 (fun x hx => ⟨by have := (List.pairwise_cons.mp hp).1 x hx; omega, (hr x (List.mem_cons_of_mem _ hx)).2⟩) (by omega)
    rw [List.length_cons]
    omega
theorem _root_.Tk.RB.el {r : RV} (h : RB r) : (r.early.length : Int) ≤ r.beg := by have := len_of_range h.c.wf.es h.c.wf.er h.c.wf.b0; omega
theorem _root_.Tk.RB.ol {r : RV} (h : RB r) : (r.offs.length : Int) ≤ r.len := by have := len_of_range h.c.wf.os h.c.wf.ow (by have := h.c.wf.l1; omega); omega
theorem _root_.Tk.RB.el2 {r : RV} (h : RB r) : r.early.length ≤ 200000 := by have := h.el; have := h.bb; omega
theorem _root_.Tk.RB.ol2 {r : RV} (h : RB r) : r.offs.length ≤ 20000 := by have := h.ol; have := h.lb; omega
theorem cnt_len {l : List Int} {t : Int} : ((l.filter fun x => decide (x ≤ t)).map V.int).length = cntLe l t := by rw [List.length_map]; rfl
end
section
variable {K : PySem.W.Frag} {C : Addr}
theorem rdRcount (T : TyF K C) (vs : List V) (H : Hp) (Q : VK) (E : XK) (h : spCount K C vs H Q E) : tRcount K { nx := fun _ H' => Q .non H', rt := Q } (start ["self", "tick", "rounds", "rest", "one"] vs) H := by
  obtain ⟨a, t, r, rfl, ⟨dx, p1, p2, p3, p4, I⟩, h⟩ := h
  unfold tRcount
  walk_at "rd"
  refine fl_begin T I ?_
  walk_at "rd"
  refine x_iteD (fun c => ?_) (fun c => ?_)
  · walk_at "rd"
    refine x_lc (x_itup ?_)
    walk_at "rd"
    refine fl_early T I ?_
    refine x_itA I.e ?_
    refine lcfI (Wk.tup I.e) (fun n => decide (n ≤ t)) V.int (by have := I.rb.el2; omega) (fun n H' Qb _ e q => ?_) (fun n H' Qv _ _ e q => ?_) (fun D H' e hD hl => ?_)
    · walk_at "rd"; exact q
    · walk_at "rd"; exact q
    · walk_at "rd"
      refine x_len (.inl (lOf hl)) ?_
      rw [cnt_len]
      have h2 := h H' e
      unfold RV.count at h2
      rw [if_pos c] at h2
      exact h2
  · walk_at "rd"
    refine fl_begin T I ?_
    walk_at "rd"
    refine fl_length T I ?_
    walk_at "rd"
    refine x_kdiv ⟨by have := I.rb.c.wf.l1; omega, by have := I.rb.lb; omega⟩ (fun p H1 e1 hp h1 => ?_)
    refine x_gtup2 (tOf h1) ?_
    have I1 := I.ex e1
    walk_at "rd"
    refine fl_early T I1 ?_
    walk_at "rd"
    refine x_lenT I1.e ?_
    walk_at "rd"
    refine fl_offsets T I1 ?_
    walk_at "rd"
    refine x_lenT I1.o ?_
    refine x_rI (.inr (by have := I.rb.ol2; omega)) ?_
    walk_at "rd"
    refine x_lc (x_itup ?_)
    walk_at "rd"
    refine fl_offsets T I1 ?_
    refine x_itA I1.o ?_
    refine lcfI (Wk.tup I1.o) (fun n => decide (n ≤ (t - r.beg) % r.len)) V.int (by have := I.rb.ol2; omega) (fun n H' Qb _ e q => ?_) (fun n H' Qv _ _ e q => ?_) (fun D H' e hD hl => ?_)
    · walk_at "rd"; exact q
    · walk_at "rd"; exact q
    · walk_at "rd"
      refine x_len (.inl (lOf hl)) ?_
      rw [cnt_len]
      have h2 := h H' (e1.trans e)
      unfold RV.count at h2
      rw [if_neg c] at h2
      walk_at "rd"
      exact h2
theorem rdRcall (T : TyF K C) (vs : List V) (H : Hp) (Q : VK) (E : XK) (h : spCall K C vs H Q E) : tRcall K C { nx := fun _ H' => Q .non H', rt := Q } (start ["self", "tick"] vs) H := by
  obtain ⟨a, t, r, rfl, ⟨dx, p1, p2, p3, p4, I⟩, h0, h1, h⟩ := h
  unfold tRcall
  walk_at "rd"
  refine ⟨_, _, _, rfl, .inl ⟨t, rfl, ?_⟩⟩
  rw [decide_eq_true h0, decide_eq_true h1]
  walk_at "rd"
  refine iteF ?_
  walk_at "rd"
  refine ⟨_, _, _, rfl, I.ob, rfl, ?_⟩
  walk_at "rd"
  exact ⟨a, t, r, rfl, ⟨dx, p1, p2, p3, p4, I⟩, h⟩
theorem rdRcontains (T : TyF K C) (vs : List V) (H : Hp) (Q : VK) (E : XK) (h : spContains K C vs H Q E) : tRcontains K C { nx := fun _ H' => Q .non H', rt := Q } (start ["self", "tick"] vs) H := by
  obtain ⟨a, x, r, rfl, ⟨dx, p1, p2, p3, p4, I⟩, h⟩ := h
  unfold tRcontains
  walk_at "rd"
  rcases h with ⟨t, rfl, h⟩ | ⟨hx, h⟩
  · refine ⟨_, _, _, rfl, .inl ⟨t, rfl, ?_⟩⟩
    walk_at "rd"
    by_cases c : (decide (0 ≤ t) && decide (t ≤ 1000000000000000000)) = true
    · rw [c] at h ⊢
      refine iteT ?_
      walk_at "rd"
      refine ⟨_, _, _, rfl, I.ob, rfl, ?_⟩
      walk_at "rd"
      exact ⟨a, t, r, rfl, ⟨dx, p1, p2, p3, p4, I⟩, h⟩
    · rw [Bool.not_eq_true] at c
      rw [c] at h ⊢
      exact iteF h
  · refine ⟨_, _, _, rfl, .inr ⟨hx, ?_⟩⟩
    walk_at "rd"
    exact iteF h
theorem rdRbool (T : TyF K C) (vs : List V) (H : Hp) (Q : VK) (E : XK) (h : spBool K C vs H Q E) : tRbool K { nx := fun _ H' => Q .non H', rt := Q } (start ["self"] vs) H := by
  obtain ⟨a, r, rfl, ⟨dx, p1, p2, p3, p4, I⟩, h⟩ := h
  unfold tRbool
  walk_at "rd"
  refine fl_early T I ?_
  walk_at "rd"
  refine x_lenT I.e ?_
  walk_at "rd"
  refine fl_offsets T I ?_
  walk_at "rd"
  refine x_lenT I.o ?_
  walk_at "rd"
  exact h
end
end TkL


namespace TkL
open PySem PySem.Spec PySem.Calls PyProof.Rows L2 Tk
section
variable {K : PySem.W.Frag} {C : Addr} {H : Hp} {Q : VK} {σ : L2.St}
theorem lay_int : ∀ l : List Int, PyData.canLayAll0 (l.map PyData.int) = true
  | [] => rfl
  | a :: l => by show (true && PyData.canLayAll0 (l.map PyData.int)) = true; rw [lay_int l]; rfl
theorem dep_int : ∀ l : List Int, PyData.depthAll (l.map PyData.int) = 0
  | [] => rfl
  | a :: l => by show max 0 (PyData.depthAll (l.map PyData.int)) = 0; rw [dep_int l]; rfl
theorem eqv_int : ∀ l m : List Int, PyData.eqvAll (l.map PyData.int) (m.map PyData.int) = decide (l = m)
  | [], [] => rfl
  | [], _ :: _ => rfl
  | _ :: _, [] => rfl
  | a :: l, b :: m => by
    show ((a == b) && PyData.eqvAll (l.map PyData.int) (m.map PyData.int)) = _
    rw [eqv_int l m, Bool.eq_iff_iff]
    simp
theorem shp_tup (l : List Int) : SeqAt.shaped (.tuple (l.map PyData.int)) = true := by
  have h1 : PyData.canLay0 (.tuple (l.map PyData.int)) = true := lay_int l
  have h2 : PyData.depth (.tuple (l.map PyData.int)) = 1 := by show PyData.depthAll (l.map PyData.int) + 1 = 1; rw [dep_int l]
  unfold SeqAt.shaped
  rw [h1, h2]
  rfl
theorem shp_parts (l m : List Int) (a b : Int) : SeqAt.shaped (.tuple [.tuple (l.map PyData.int), .int a, .int b, .tuple (m.map PyData.int)]) = true := by
  have h1 : PyData.canLay0 (.tuple [.tuple (l.map PyData.int), .int a, .int b, .tuple (m.map PyData.int)]) = true := by
    show (PyData.canLayAll0 (l.map PyData.int) && (true && (true && (PyData.canLayAll0 (m.map PyData.int) && true)))) = true
    rw [lay_int l, lay_int m]; rfl
  have h2 : PyData.depth (.tuple [.tuple (l.map PyData.int), .int a, .int b, .tuple (m.map PyData.int)]) = 2 := by
    show max (PyData.depthAll (l.map PyData.int) + 1) (max 0 (max 0 (max (PyData.depthAll (m.map PyData.int) + 1) 0))) + 1 = 2
    rw [dep_int l, dep_int m]; rfl
  unfold SeqAt.shaped
  rw [h1, h2]
  rfl
theorem eqv_parts (l m l' m' : List Int) (a b a' b' : Int) : PyData.eqv (.tuple [.tuple (l.map PyData.int), .int a, .int b, .tuple (m.map PyData.int)]) (.tuple [.tuple (l'.map PyData.int), .int a', .int b', .tuple (m'.map PyData.int)]) = (decide (l = l') && (decide (a = a') && (decide (b = b') && decide (m = m')))) := by
  show (PyData.eqvAll (l.map PyData.int) (l'.map PyData.int) && ((a == a') && ((b == b') && (PyData.eqvAll (m.map PyData.int) (m'.map PyData.int) && true)))) = _
  rw [eqv_int, eqv_int, Bool.eq_iff_iff]
  simp
theorem dp_zI : ∀ l : List Int, DpAll K H (zI l) (l.map PyData.int)
  | [] => .nil
  | a :: l => .cons (.int a) (dp_zI l)
theorem dp_tup {p : Addr} {l : List Int} (s : SqT K H p (zI l)) : Dp K H (.ref p) (.tuple (l.map PyData.int)) := .tup s (dp_zI l)
theorem x_eqT {p q : Addr} {l m : List Int} (s : SqT K H p (zI l)) (t : SqT K H q (zI m)) (h : Q (.bl (decide (l = m))) H) : rEqD K (.ref p) (.ref q) H Q :=
  ⟨_, _, dp_tup s, dp_tup t, shp_tup l, shp_tup m, by show Q (.bl (PyData.eqvAll (l.map PyData.int) (m.map PyData.int))) H; rw [eqv_int]; exact h⟩
theorem x_neT {p q : Addr} {l m : List Int} (s : SqT K H p (zI l)) (t : SqT K H q (zI m)) (h : Q (.bl (!decide (l = m))) H) : rNeD K (.ref p) (.ref q) H Q :=
  ⟨_, _, dp_tup s, dp_tup t, shp_tup l, shp_tup m, by show Q (.bl (!PyData.eqvAll (l.map PyData.int) (m.map PyData.int))) H; rw [eqv_int]; exact h⟩
theorem atI_zI {l : List Int} {n : Int} (h0 : 0 ≤ n) (h1 : n < l.length) : atI (zI l) n = some (.int (l.getD n.toNat 0)) := by
  unfold atI ixN
  rw [zI_len, if_pos h0, if_pos h1]
  show (zI l)[n.toNat]? = _
  unfold zI
  rw [List.getElem?_map]
  have hn : n.toNat < l.length := by omega
  rw [List.getD_eq_getElem?_getD, List.getElem?_eq_getElem hn]
  rfl
theorem atI_last {l : List Int} {x : Int} : atI (zI (l ++ [x])) (-1) = some (.int x) := by
  unfold atI ixN
  rw [zI_len, if_neg (by omega), List.length_append, List.length_singleton, if_pos (by omega)]
  have e : (-1 + ((l.length + 1 : Nat) : Int)).toNat = l.length := by omega
  show (zI (l ++ [x]))[_]? = _
  rw [e]
  unfold zI
  rw [List.map_append, List.getElem?_append_right (by simp)]
  simp
end
section
variable {K : PySem.W.Frag} {C : Addr}
theorem rdRitem (T : TyF K C) (vs : List V) (H : Hp) (Q : VK) (E : XK) (h : spItem K C vs H Q E) : tRitem K { nx := fun _ H' => Q .non H', rt := Q } (start ["self", "number", "rounds", "rest"] vs) H := by
  obtain ⟨a, n, r, rfl, ⟨dx, p1, p2, p3, p4, I⟩, h0, h1, hr, h⟩ := h
  unfold tRitem
  walk_at "rd"
  refine ⟨_, _, _, rfl, .inl ⟨n, rfl, ?_⟩⟩
  rw [decide_eq_true h0, decide_eq_true h1]
  walk_at "rd"
  refine iteF ?_
  walk_at "rd"
  refine fl_early T I ?_
  walk_at "rd"
  refine x_lenT I.e ?_
  walk_at "rd"
  refine x_iteD (fun c => ?_) (fun c => ?_)
  · walk_at "rd"
    refine fl_early T I ?_
    walk_at "rd"
    refine x_ixT I.e (atI_zI h0 c) ?_
    have h2 := h H (Ex.refl H)
    unfold RV.nth at h2
    rw [if_pos c] at h2
    exact h2
  · walk_at "rd"
    refine fl_offsets T I ?_
    walk_at "rd"
    intro p H1 e1 hp ht
    have I1 := I.ex e1
    have ho : r.offs ≠ [] := hr.elim (fun z => absurd z c) id
    have hol : 0 < r.offs.length := List.length_pos_iff.mpr ho
    refine x_eqT (l := r.offs) (m := []) I1.o (tOf ht) ?_
    rw [decide_eq_false ho]
    walk_at "rd"
    refine iteF ?_
    walk_at "rd"
    refine fl_early T I1 ?_
    walk_at "rd"
    refine x_lenT I1.e ?_
    walk_at "rd"
    refine fl_offsets T I1 ?_
    walk_at "rd"
    refine x_lenT I1.o ?_
    walk_at "rd"
    refine x_kdiv ⟨by omega, by have := I.rb.ol2; omega⟩ (fun p H2 e2 hp h2 => ?_)
    refine x_gtup2 (tOf h2) ?_
    have I2 := I1.ex e2
    walk_at "rd"
    refine fl_begin T I2 ?_
    walk_at "rd"
    refine fl_length T I2 ?_
    refine x_rI (.inr (by have := I.rb.lb; have := I.rb.c.wf.l1; omega)) ?_
    walk_at "rd"
    refine fl_offsets T I2 ?_
    walk_at "rd"
    refine x_ixT I2.o (atI_zI (Int.emod_nonneg _ (by omega)) (Int.emod_lt_of_pos _ (by omega))) ?_
    walk_at "rd"
    have h3 := h H2 (e1.trans e2)
    unfold RV.nth at h3
    rw [if_neg c] at h3
    exact h3
theorem rdRis_endless (T : TyF K C) (vs : List V) (H : Hp) (Q : VK) (E : XK) (h : spEndless K C vs H Q E) : tRis_endless K { nx := fun _ H' => Q .non H', rt := Q } (start ["self"] vs) H := by
  obtain ⟨a, r, rfl, ⟨dx, p1, p2, p3, p4, I⟩, h⟩ := h
  unfold tRis_endless
  walk_at "rd"
  refine fl_offsets T I ?_
  walk_at "rd"
  intro p H1 e1 hp ht
  refine x_neT (l := r.offs) (m := []) (I.ex e1).o (tOf ht) ?_
  have h3 := h H1 e1
  have e : decide (r.offs ≠ []) = !decide (r.offs = []) := by cases r.offs <;> rfl
  rw [e] at h3
  exact h3
theorem rdRrepetition (T : TyF K C) (vs : List V) (H : Hp) (Q : VK) (E : XK) (h : spRep K C vs H Q E) : tRrepetition K { nx := fun _ H' => Q .non H', rt := Q } (start ["self"] vs) H := by
  obtain ⟨a, r, rfl, ⟨dx, p1, p2, p3, p4, I⟩, h⟩ := h
  unfold tRrepetition
  walk_at "rd"
  refine x_tup ?_
  walk_at "rd"
  refine fl_begin T I ?_
  walk_at "rd"
  refine fl_length T I ?_
  walk_at "rd"
  refine fl_offsets T I ?_
  walk_at "rd"
  refine x_lenT I.o ?_
  walk_at "rd"
  exact ⟨by show 3 ≤ sizeLine; decide, x_new fun p H' e hp ht => h H' p e ht⟩
theorem rdReq (T : TyF K C) (vs : List V) (H : Hp) (Q : VK) (E : XK) (h : spEq K C vs H Q E) : tReq K C { nx := fun _ H' => Q .non H', rt := Q } (start ["self", "other"] vs) H := by
  unfold tReq
  obtain ⟨a, b, r, s, rfl, ⟨dx, p1, p2, p3, p4, I⟩, ⟨dy, q1, q2, q3, q4, J⟩, h⟩ := h
  walk_at "rd"
  refine kisi (T.insX _ _ _ _ J.ob) (.own C) T.row_row ?_
  walk_at "rd"
  refine iteT ?_
  walk_at "rd"
  refine fl_parts T I ?_
  walk_at "rd"
  refine fl_parts T J ?_
  refine ⟨.tuple [.tuple (r.early.map PyData.int), .int r.beg, .int r.len, .tuple (r.offs.map PyData.int)], .tuple [.tuple (s.early.map PyData.int), .int s.beg, .int s.len, .tuple (s.offs.map PyData.int)], ?_, ?_, shp_parts _ _ _ _, shp_parts _ _ _ _, ?_⟩
  · exact .tup I.p (.cons (dp_tup I.e) (.cons (.int _) (.cons (.int _) (.cons (dp_tup I.o) .nil))))
  · exact .tup J.p (.cons (dp_tup J.e) (.cons (.int _) (.cons (.int _) (.cons (dp_tup J.o) .nil))))
  · rw [eqv_parts]
    have e : (decide (r.early = s.early) && (decide (r.beg = s.beg) && (decide (r.len = s.len) && decide (r.offs = s.offs)))) = decide (r = s) := by
      rw [Bool.eq_iff_iff]
      simp only [Bool.and_eq_true, decide_eq_true_iff]
      constructor
      · rintro ⟨h1, h2, h3, h4⟩; exact RV.ext' h1 h2 h3 h4
      · rintro rfl; exact ⟨rfl, rfl, rfl, rfl⟩
    rw [e]
    exact h
end
end TkL


namespace Tk
theorem diffs_len : ∀ l : List Int, (diffs l).length = l.length - 1
  | [] => rfl
  | [_] => rfl
  | a :: b :: l => by
    have := diffs_len (b :: l)
    show (diffs (b :: l)).length + 1 = _
    rw [this]; rfl
theorem diffs_get : ∀ {l : List Int} {i : Nat}, i + 1 < l.length → (diffs l)[i]? = some (l.getD (i + 1) 0 - l.getD i 0)
  | [], i, h => by simp at h
  | [_], i, h => by simp at h
  | a :: b :: l, 0, h => rfl
  | a :: b :: l, i + 1, h => by
    have := diffs_get (l := b :: l) (i := i) (by simpa using h)
    show (diffs (b :: l))[i]? = _
    rw [this]; rfl
theorem diffs_range (l : List Int) : diffs l = (List.range (l.length - 1)).map fun i => l.getD (i + 1) 0 - l.getD i 0 := by
  apply List.ext_getElem?
  intro i
  by_cases h : i + 1 < l.length
  · rw [diffs_get h, List.getElem?_map, List.getElem?_range (by omega)]; rfl
  · rw [List.getElem?_eq_none (by rw [diffs_len]; omega), List.getElem?_eq_none (by simp; omega)]
end Tk
namespace TkL
open PySem PySem.Spec PySem.Calls PyProof.Rows L2 Tk
section
variable {K : PySem.W.Frag} {C : Addr} {H : Hp} {Q : VK} {σ : L2.St}
theorem zI_take {l : List Int} {i : Nat} : zI (l.take i) = (zI l).take i := by unfold zI; rw [List.map_take]
theorem zI_snoc {l : List Int} {x : Int} : zI l ++ [V.int x] = zI (l ++ [x]) := by unfold zI; simp
theorem zI_app {l m : List Int} : zI l ++ zI m = zI (l ++ m) := by unfold zI; simp
theorem x_app {L : Addr} {l : List Int} {x : Int} (hl : H L = some (.lst (zI l))) (hz : l.length < 1000000) (h : Q .non (upd H L (.lst (zI (l ++ [x]))))) : tyV K "list" (.ref L) H ∧ (rAppend (.ref L) [.int x] H Q) := by
  refine ⟨.inl ⟨rfl, _, lOf hl⟩, L, _, _, rfl, rfl, hl, sz_lt (by rw [zI_len]; exact hz), ?_⟩
  rw [zI_snoc]; exact h
theorem x_ty {L : Addr} {l : List V} {P : Prop} (hl : H L = some (.lst l)) (h : P) : tyV K "list" (.ref L) H ∧ P := ⟨.inl ⟨rfl, _, lOf hl⟩, h⟩
theorem x_appR {L : Addr} {l : List Int} {x : Int} (hl : H L = some (.lst (zI l))) (hz : l.length < 1000000) (h : Q .non (upd H L (.lst (zI (l ++ [x]))))) : rAppend (.ref L) [.int x] H Q := by
  refine ⟨L, _, _, rfl, rfl, hl, sz_lt (by rw [zI_len]; exact hz), ?_⟩
  rw [zI_snoc]; exact h
theorem x_tupL {L : Addr} {l : List V} (hl : H L = some (.lst l)) (h : ∀ p H', Ex H H' → H p = none → H' p = some (.tup l) → Q (.ref p) H') : kTuple K [.ref L] H Q := ⟨L, l, rfl, .inl ⟨lOf hl, x_new h⟩⟩
theorem x_listT {p : Addr} {l : List V} (s : Seq K H p l) (h : ∀ q H', Ex H H' → H q = none → H' q = some (.lst l) → Q (.ref q) H') : kList K [.ref p] H Q := ⟨p, l, rfl, s, x_new h⟩
theorem x_enT {A : TA} {R : It → Hp → Prop} (h : A σ H fun vs H1 => ∃ a xs, vs = [.ref a] ∧ ((SqL K H1 a xs ∧ R (Ite K a) H1) ∨ (SqT K H1 a xs ∧ R (IteT K a) H1))) : iEnumA K A σ H R := h
theorem exnone {H H' : Hp} {p : Addr} (e : Ex H H') (h : H' p = none) : H p = none := e.back h
theorem take_next {l : List Int} {i : Nat} {x : Int} (h : l[i]? = some x) : l.take i ++ [x] = l.take (i + 1) := (take_succ_of h).symm
end
section
variable {K : PySem.W.Frag} {C : Addr}
theorem rdRlaps (T : TyF K C) (vs : List V) (H : Hp) (Q : VK) (E : XK) (h : spLaps K C vs H Q E) : tRlaps K { nx := fun _ H' => Q .non H', rt := Q } (start ["self", "found", "place", "offset", "is_last"] vs) H := by
  obtain ⟨a, r, rfl, ⟨dx, p1, p2, p3, p4, I⟩, h⟩ := h
  unfold tRlaps
  walk_at "rd"
  intro L H1 e1 hL hl1
  have I1 := I.ex e1
  walk_at "rd"
  refine x_for (x_enT ?_)
  walk_at "rd"
  refine fl_offsets T I1 ?_
  walk_at "rd"
  refine ⟨_, _, rfl, .inr ⟨I1.o, ?_⟩⟩
  have hN : r.laps.length = r.offs.length := by
    unfold RV.laps
    rw [diffs_len, List.length_append, List.length_map, List.length_take]
    omega
  refine for_enT I.o (fun i σ H' => ∃ u v w, σ = [some (.ref a), some (.ref L), u, v, w] ∧ Ex H H' ∧ H' L = some (.lst (zI (r.laps.take i)))) ⟨_, _, _, rfl, e1, hl1⟩ (fun i σ H' ⟨_, _, _, _, e, _⟩ => e) ?_ ?_
  · rintro i x σ H2 H3 hx ⟨u, v, w, rfl, e2, hl⟩ e3
    obtain ⟨n, hn, rfl⟩ := zI_get hx
    have hi := lt_of_get hn
    have e23 := e2.trans e3
    have I3 := I.ex e23
    have hl3 := e3 _ _ hl
    have hd : r.laps[i]? = some ((if i + 1 = r.offs.length then r.offs.getD 0 0 + r.len else r.offs.getD (i + 1) 0) - n) := by
      unfold RV.laps
      have ho : r.offs.take 1 = [r.offs.getD 0 0] := by cases hh : r.offs with
        | nil => rw [hh] at hi; simp at hi
        | cons b l => rfl
      rw [ho, List.map_singleton, diffs_get (by rw [List.length_append, List.length_singleton]; omega)]
      simp only [List.getD_eq_getElem?_getD]
      rw [List.getElem?_append_left hi, hn]
      by_cases c : i + 1 = r.offs.length
      · rw [if_pos c, c, List.getElem?_append_right (Nat.le_refl _)]
        simp
      · rw [if_neg c, List.getElem?_append_left (by omega)]
        simp
    have fin : ∀ z, z = (if i + 1 = r.offs.length then r.offs.getD 0 0 + r.len else r.offs.getD (i + 1) 0) - n → Ex H (upd H3 L (.lst (zI (r.laps.take i ++ [z])))) ∧ (upd H3 L (.lst (zI (r.laps.take i ++ [z])))) L = some (.lst (zI (r.laps.take (i + 1)))) := fun z hz => by
      subst hz
      exact ⟨e23.mut hL, by rw [upd_same, take_next hd]⟩
    walk_at "rd"
    refine fl_offsets T I3 ?_
    walk_at "rd"
    refine x_lenT I3.o ?_
    refine x_rEq rfl ?_
    walk_at "rd"
    refine x_ty hl3 ?_
    walk_at "rd"
    by_cases c : i + 1 = r.offs.length
    · have e : decide (V.int ((i : Int) + 1) = V.int r.offs.length) = true := decide_eq_true (by rw [← c]; rfl)
      rw [e]
      refine iteT ?_
      walk_at "rd"
      refine fl_offsets T I3 ?_
      walk_at "rd"
      refine x_ixT I3.o (atI_zI (by omega) (by omega)) ?_
      walk_at "rd"
      refine fl_length T I3 ?_
      walk_at "rd"
      refine x_appR hl3 (by rw [List.length_take]; have := I.rb.ol2; omega) ?_
      exact ⟨_, _, _, rfl, fin _ (by rw [if_pos c]; rfl)⟩
    · have e : decide (V.int ((i : Int) + 1) = V.int r.offs.length) = false := decide_eq_false fun z => c (by have := V.int.inj z; omega)
      rw [e]
      refine iteF ?_
      walk_at "rd"
      refine fl_offsets T I3 ?_
      walk_at "rd"
      refine x_ixT I3.o (atI_zI (by omega) (by omega)) ?_
      walk_at "rd"
      refine x_appR hl3 (by rw [List.length_take]; have := I.rb.ol2; omega) ?_
      exact ⟨_, _, _, rfl, fin _ (by rw [if_neg c]; rfl)⟩
  · rintro σ H2 ⟨u, v, w, rfl, e2, hl⟩
    walk_at "rd"
    rw [zI_len, ← hN, List.take_length] at hl
    exact x_tupL hl fun p H' e hp ht => h H' p (e2.trans e) ht
theorem rdRfirst_laps (T : TyF K C) (vs : List V) (H : Hp) (Q : VK) (E : XK) (h : spFlaps K C vs H Q E) : tRfirst_laps K { nx := fun _ H' => Q .non H', rt := Q } (start ["self", "ticks", "place"] vs) H := by
  obtain ⟨a, r, rfl, ⟨dx, p1, p2, p3, p4, I⟩, h⟩ := h
  unfold tRfirst_laps
  walk_at "rd"
  refine fl_early T I ?_
  walk_at "rd"
  refine x_listT (.inr I.e) fun L H1 e1 hL hl1 => ?_
  have I1 := I.ex e1
  walk_at "rd"
  refine fl_offsets T I1 ?_
  walk_at "rd"
  intro p H2 e2 hp ht
  have I2 := I1.ex e2
  have hl2 := e2 _ _ hl1
  refine x_neT (l := r.offs) (m := []) I2.o (tOf ht) ?_
  walk_at "rd"
  have rest : ∀ (ts : List Int) (H3 : Hp) (u : Option V), Ex H H3 → H3 L = some (.lst (zI ts)) → r.flaps = diffs ts → ts.length ≤ 300000 → tRet (tCB (kTuple K) (tCons (tLc (iRng1 (tCons (tOp (rI0 fun i j => V.int (i - j)) (tCB (kLen K) (tCons (tVar 1) tNil)) (tC (.int 1))) tNil)) (gName 2) tYes (tOp (rI0 fun i j => V.int (i - j)) (tOp (rIxL K) (tVar 1) (tOp (rI0 fun i j => V.int (i + j)) (tVar 2) (tC (.int 1)))) (tOp (rIxL K) (tVar 1) (tVar 2))) [2]) tNil)) { nx := fun x H' => Q V.non H', rt := Q } [some (.ref a), some (.ref L), u] H3 := fun ts H3 u e3 hl3 hf hz => by
    walk_at "rd"
    refine x_lc ?_
    unfold iRng1
    walk_at "rd"
    refine x_lenL (lOf hl3) ?_
    walk_at "rd"
    refine ⟨_, rfl, by omega, by omega, ?_⟩
    have en : ((ts.length : Int) - 1).toNat = ts.length - 1 := by omega
    rw [en]
    refine lcf (Wk.rng (lo := 0)) (fun _ => true) (fun x => match x with | .int i => .int (ts.getD (i.toNat + 1) 0 - ts.getD i.toNat 0) | x => x) (by rw [rngV_length]; omega) (fun i x H4 Qb hx e q => ?_) (fun i x H4 Qv hx _ e q => ?_) (fun D H4 e hD hl => ?_)
    · exact q
    · have hi := lt_of_get hx
      rw [rngV_length] at hi
      rw [rngV_get hi] at hx
      cases hx
      have hl4 := e _ _ hl3
      walk_at "rd"
      refine x_ixL (lOf hl4) (atI_zI (by omega) (by omega)) ?_
      walk_at "rd"
      refine x_ixL (lOf hl4) (atI_zI (by omega) (by omega)) ?_
      walk_at "rd"
      have e5 : ((0 : Int) + (i : Int) + 1).toNat = ((0 : Int) + (i : Int)).toNat + 1 := by omega
      rw [e5]
      exact q
    · walk_at "rd"
      refine x_tupL hl fun p H5 e5 hp ht => h H5 p (e3.trans (e.trans e5)) ?_
      rw [ht, hf, diffs_range]
      congr 2
      unfold rngV zI
      rw [List.filter_eq_self.mpr (fun _ _ => rfl), List.map_map, List.map_map]
      apply List.map_congr_left
      intro i _
      show V.int _ = V.int _
      have e6 : ((0 : Int) + (i : Int)).toNat = i := by omega
      rw [e6]
  by_cases c : r.offs = []
  · rw [decide_eq_true c]
    refine iteF ?_
    walk_at "rd"
    refine rest r.early H2 none (e1.trans e2) hl2 ?_ (by have := I.rb.el2; omega)
    unfold RV.flaps
    rw [c]
    simp
  · rw [decide_eq_false c]
    refine iteT ?_
    walk_at "rd"
    refine x_ty hl2 ?_
    walk_at "rd"
    refine fl_begin T I2 ?_
    walk_at "rd"
    refine fl_offsets T I2 ?_
    walk_at "rd"
    have hol : 0 < r.offs.length := List.length_pos_iff.mpr c
    refine x_ixT I2.o (atI_zI (by omega) (by omega)) ?_
    walk_at "rd"
    refine x_appR hl2 (by have := I.rb.el2; omega) ?_
    refine rest (r.early ++ [r.beg + r.offs.getD 0 0]) _ none ((e1.trans e2).mut hL) upd_same ?_ (by rw [List.length_append]; have := I.rb.el2; simp; omega)
    unfold RV.flaps
    have ho : r.offs.take 1 = [r.offs.getD 0 0] := by
      cases hh : r.offs with
      | nil => exact absurd hh c
      | cons b l => rfl
    rw [ho]
    rfl
end
end TkL


namespace Tk
theorem tks_ne {a : Int} {l : List Int} : tks a l ≠ [] := by cases l <;> simp [tks]
theorem tks_len : ∀ {a : Int} {l : List Int}, (tks a l).length = l.length + 1
  | _, [] => rfl
  | a, b :: l => by show (tks (a + b) l).length + 1 = _; rw [tks_len]; rfl
theorem tks_snoc : ∀ {a : Int} {l : List Int} {x : Int}, tks a (l ++ [x]) = tks a l ++ [a + l.sum + x]
  | a, [], x => by show [a, a + x] = [a, a + 0 + x]; rw [Int.add_zero]
  | a, b :: l, x => by
    show a :: tks (a + b) (l ++ [x]) = a :: (tks (a + b) l ++ [a + (b :: l).sum + x])
    rw [tks_snoc, List.sum_cons, Int.add_assoc a b]
theorem tks_split : ∀ {a : Int} {l : List Int}, tks a l = (tks a l).dropLast ++ [a + l.sum]
  | a, [] => by show [a] = [] ++ [a + 0]; simp
  | a, b :: l => by
    have h := tks_split (a := a + b) (l := l)
    have hne : tks (a + b) l ≠ [] := tks_ne
    show a :: tks (a + b) l = (a :: tks (a + b) l).dropLast ++ [a + (b :: l).sum]
    rw [List.dropLast_cons_of_ne_nil hne, List.sum_cons, ← Int.add_assoc, List.cons_append, ← h]
theorem tks_range : ∀ {a : Int} {l : List Int}, (∀ x ∈ l, 1 ≤ x) → ∀ y ∈ tks a l, a ≤ y ∧ y ≤ a + l.sum
  | a, [], _, y, hy => by
    have : y = a := by simpa [tks] using hy
    subst this; simp
  | a, b :: l, h, y, hy => by
    have hb := h b List.mem_cons_self
    have hs : 0 ≤ l.sum := by
      have hh : ∀ x ∈ l, 1 ≤ x := fun x hx => h x (List.mem_cons_of_mem _ hx)
      clear hy h
      induction l with
      | nil => simp
      | cons c l ih => rw [List.sum_cons]; have := hh c List.mem_cons_self; have := ih (fun x hx => hh x (List.mem_cons_of_mem _ hx)); omega
    rw [List.sum_cons]
    rcases List.mem_cons.mp hy with e | hy
    · subst e; omega
    · have := tks_range (fun x hx => h x (List.mem_cons_of_mem _ hx)) y hy
      omega
theorem tks_pair : ∀ {a : Int} {l : List Int}, (∀ x ∈ l, 1 ≤ x) → (tks a l).Pairwise (· < ·)
  | a, [], _ => List.pairwise_singleton _ _
  | a, b :: l, h => by
    refine List.pairwise_cons.mpr ⟨fun y hy => ?_, tks_pair fun x hx => h x (List.mem_cons_of_mem _ hx)⟩
    have := (tks_range (fun x hx => h x (List.mem_cons_of_mem _ hx)) y hy).1
    have := h b List.mem_cons_self
    omega
theorem tks_front {a : Int} {l : List Int} (h : ∀ x ∈ l, 1 ≤ x) : (tks a l).dropLast.Pairwise (· < ·) ∧ ∀ y ∈ (tks a l).dropLast, a ≤ y ∧ y < a + l.sum := by
  have p := tks_pair (a := a) h
  rw [tks_split, List.pairwise_append] at p
  refine ⟨p.1, fun y hy => ⟨(tks_range h y ((List.dropLast_sublist _).subset hy)).1, p.2.2 y hy _ (List.mem_singleton.mpr rfl)⟩⟩
theorem sum_ge {l : List Int} (h : ∀ x ∈ l, 1 ≤ x) : (l.length : Int) ≤ l.sum := by
  induction l with
  | nil => simp
  | cons c l ih => rw [List.sum_cons, List.length_cons]; have := h c List.mem_cons_self; have := ih (fun x hx => h x (List.mem_cons_of_mem _ hx)); omega
theorem plan_wf {s : Int} {fs ls : List Int} (h0 : 0 ≤ s) (hf : ∀ x ∈ fs, 1 ≤ x) (hl : ∀ x ∈ ls, 1 ≤ x) (hn : ls ≠ []) : WF (tks s fs).dropLast (s + fs.sum) ls.sum (tks 0 ls).dropLast := by
  have a := tks_front (a := s) hf
  have b := tks_front (a := 0) hl
  have g1 := sum_ge hf
  have g2 := sum_ge hl
  have g3 := List.length_pos_iff.mpr hn
  exact ⟨a.1, fun x hx => ⟨by have := (a.2 x hx).1; omega, (a.2 x hx).2⟩, by omega, by omega, b.1, fun x hx => ⟨(b.2 x hx).1, by have := (b.2 x hx).2; omega⟩⟩
end Tk
namespace TkL
open PySem PySem.Spec PySem.Calls PyProof.Rows L2 Tk
section
variable {K : PySem.W.Frag} {C : Addr} {H : Hp} {Q : VK} {σ : L2.St}
theorem range_getD {l : List Int} {k : Int → Int} : (List.range (zI l).length).map (fun i => k (l.getD i 0)) = l.map k := by
  rw [zI_len]
  apply List.ext_getElem?
  intro i
  by_cases h : i < l.length
  · rw [List.getElem?_map, List.getElem?_range h, List.getElem?_map, List.getElem?_eq_getElem h]
    simp [List.getD_eq_getElem?_getD, List.getElem?_eq_getElem h]
  · rw [List.getElem?_eq_none (by simp; omega), List.getElem?_eq_none (by simp; omega)]
theorem dcfI {J : It} {H1 : Hp} {xs : List Int} (W : Wk J H1 (zI xs)) {j : Nat} {tk tv : TE} {σ : L2.St} {Q : Addr → Hp → Prop} (f : Int → Int) (hz : xs.length ≤ 1000000)
    (hk : ∀ n H' (Qv : VK), n ∈ xs → Ex H1 H' → Qv (.int (f n)) H' → tk ((wipe σ [j]).set j (some (.int n))) H' Qv)
    (hv : ∀ n H' (Qv : VK), n ∈ xs → Ex H1 H' → Qv (.bl true) H' → tv ((wipe σ [j]).set j (some (.int n))) H' Qv)
    (hd : ∀ D H', Ex H1 H' → H1 D = none → H' D = some (.dK (mkD (xs.map f))) → Q D H') :
    ∀ D, H1 D = none → ∃ W : Nat → Nat → Hp → Prop, (∃ m, W 0 m (upd H1 D (.dK []))) ∧ ∀ i m H, W i m H →
      (J.stop i H ∧ Q D H) ∨ (J.go i H ∧ ∃ Nx : Hp → Prop, (∀ H', Nx H' → ∃ m', m' < m ∧ W (i + 1) m' H') ∧ ∀ x H', J.yld i H x H' → gName j x (wipe σ [j]) H' fun σ2 H2 => wipe σ2 [j] = wipe σ [j] ∧ tYes σ2 H2 fun b H3 =>
        if b = true then tk σ2 H3 fun y H4 => tv σ2 H4 fun z H5 => ∃ kvs k, y = kV k ∧ H5 D = some (.dK kvs) ∧ kvs.length < sizeLine ∧ Nx (upd H5 D (.dK (putK kvs k z))) else Nx H3) := by
  refine dcf W (fun i => f (xs.getD i 0)) (by rw [zI_len]; exact hz) (fun i x H' Qv hx e q => ?_) (fun i x H' Qv hx e q => ?_) (fun D H' e h1 h2 => ?_)
  · obtain ⟨n, hn, rfl⟩ := zI_get hx
    have e2 : xs.getD i 0 = n := by rw [List.getD_eq_getElem?_getD, hn]; rfl
    rw [e2] at q
    exact hk n H' Qv (List.mem_of_getElem? hn) e q
  · obtain ⟨n, hn, rfl⟩ := zI_get hx
    exact hv n H' Qv (List.mem_of_getElem? hn) e q
  · rw [range_getD] at h2
    exact hd D H' e h1 h2
theorem pt1 {x : V} : putF "early" x [] = [(("early" : Str), x)] := rfl
theorem pt2 {x y : V} : putF "begin" y [(("early" : Str), x)] = [(("early" : Str), x), ("begin", y)] := rfl
theorem pt3 {x y z : V} : putF "length" z [(("early" : Str), x), ("begin", y)] = [(("early" : Str), x), ("begin", y), ("length", z)] := rfl
theorem pt4 {x y z u : V} : putF "offsets" u [(("early" : Str), x), ("begin", y), ("length", z)] = [(("early" : Str), x), ("begin", y), ("length", z), ("offsets", u)] := rfl
theorem pt5 {x y z u v : V} : putF "marks" v [(("early" : Str), x), ("begin", y), ("length", z), ("offsets", u)] = [(("early" : Str), x), ("begin", y), ("length", z), ("offsets", u), ("marks", v)] := rfl
theorem pt6 {x y z u v w : V} : putF "parts" w [(("early" : Str), x), ("begin", y), ("length", z), ("offsets", u), ("marks", v)] = [(("early" : Str), x), ("begin", y), ("length", z), ("offsets", u), ("marks", v), ("parts", w)] := rfl
theorem upd_upd {H : Hp} {a : Addr} {o u : HO} : upd (upd H a o) a u = upd H a u := by
  funext x
  by_cases h : x = a
  · subst h; rw [upd_same, upd_same]
  · rw [upd_ne h, upd_ne h, upd_ne h]
theorem sqT_upd {p a C C' dx dx' : Addr} {fs gs : List (Str × V)} {xs : List V} (s : SqT K H p xs) (h : H a = some (.ins C dx fs)) : SqT K (upd H a (.ins C' dx' gs)) p xs := by
  have ne : ∀ {u : HO}, H p = some u → (∀ C dx fs, u ≠ .ins C dx fs) → p ≠ a := fun hp hu e => by
    subst e
    rw [hp] at h
    cases h
    exact hu _ _ _ rfl
  rcases s with (s | ⟨o, s⟩) | s
  · exact .inl (.inl (by rw [upd_ne (ne s fun _ _ _ z => by cases z)]; exact s))
  · exact .inl (.inr ⟨o, by rw [upd_ne (ne s fun _ _ _ z => by cases z)]; exact s⟩)
  · exact .inr s
end
section
variable {K : PySem.W.Frag} {C : Addr}
theorem rdRinit (T : TyF K C) (vs : List V) (H : Hp) (Q : VK) (E : XK) (h : spInit K C vs H Q E) : tRinit K { nx := fun _ H' => Q .non H', rt := Q } (start ["self", "early", "begin", "length", "offsets", "offset"] vs) H := by
  obtain ⟨a, dx, p1, p2, r, rfl, ha, s1, s2, rb, h⟩ := h
  unfold tRinit
  walk_at "rd"
  refine ⟨_, _, _, _, rfl, ha, T.cl, T.early, by show 0 < 1000; decide, ?_⟩
  walk_at "rd"
  refine ⟨_, _, _, _, rfl, upd_same, T.cl, T.begin_, by show 1 < 1000; decide, ?_⟩
  rw [upd_upd, pt1, pt2]
  walk_at "rd"
  refine ⟨_, _, _, _, rfl, upd_same, T.cl, T.length, by show 2 < 1000; decide, ?_⟩
  rw [upd_upd, pt3]
  walk_at "rd"
  refine ⟨_, _, _, _, rfl, upd_same, T.cl, T.offsets, by show 3 < 1000; decide, ?_⟩
  rw [upd_upd, pt4]
  walk_at "rd"
  refine x_dc (x_itup ?_)
  walk_at "rd"
  have s2' := sqT_upd (C' := C) (dx' := dx) (gs := [("early", V.ref p1), ("begin", V.int r.beg), ("length", V.int r.len), ("offsets", V.ref p2)]) s2 ha
  refine ⟨⟨_, s2'⟩, ?_⟩
  refine dcfI (Wk.tup s2') (fun n => n) (by have := rb.ol2; omega) (fun n H' Qv _ e q => ?_) (fun n H' Qv _ e q => ?_) (fun D H1 e1 hD hm => ?_)
  · walk_at "rd"; exact q
  · walk_at "rd"; exact q
  · walk_at "rd"
    have ha1 := e1 _ _ upd_same
    refine ⟨_, _, _, _, rfl, ha1, T.cl, T.marks, by show 4 < 1000; decide, ?_⟩
    rw [pt5]
    walk_at "rd"
    refine x_tup ?_
    walk_at "rd"
    refine ⟨by show 4 ≤ sizeLine; decide, fun p hp => ?_⟩
    have npa : a ≠ p := fun e => by subst e; rw [upd_same] at hp; cases hp
    walk_at "rd"
    refine ⟨_, _, _, _, rfl, (by rw [upd_ne npa]; exact upd_same), T.cl, T.parts, by show 5 < 1000; decide, ?_⟩
    rw [pt6]
    have hDa : D ≠ a := fun e => by subst e; rw [upd_same] at hD; cases hD
    have hDp : D ≠ p := fun e => by subst e; rw [upd_ne hDa, hm] at hp; cases hp
    have hp1 : H1 p = none := by rw [upd_ne npa.symm] at hp; exact hp
    have keep : ∀ x o, x ≠ a → H x = some o → H1 x = some o := fun x o hx ho => e1 x o (by rw [upd_ne hx]; exact ho)
    refine h _ (fun x o hx ho => ?_) ?_
    · have h1 := keep x o hx ho
      rw [upd_ne hx, upd_ne (ne_of_none h1 hp1), upd_ne hx]
      exact h1
    · have t1 : SqT K H1 p1 (zI r.early) := e1.sqT (sqT_upd s1 ha)
      have t2 : SqT K H1 p2 (zI r.offs) := e1.sqT s2'
      have lift : ∀ {q : Addr} {xs : List V}, SqT K H1 q xs → SqT K (upd (upd (upd H1 a (.ins C dx [(("early" : Str), V.ref p1), ("begin", V.int r.beg), ("length", V.int r.len), ("offsets", V.ref p2), ("marks", V.ref D)])) p (.tup [.ref p1, .int r.beg, .int r.len, .ref p2])) a (.ins C dx (rowFs p1 r.beg r.len p2 D p))) q xs := fun s =>
        sqT_upd ((Ex.new hp).sqT (sqT_upd s ha1)) (by rw [upd_ne npa]; exact upd_same)
      refine ⟨dx, p1, p2, D, p, upd_same, lift t1, lift t2, ?_, ?_, rb⟩
      · rw [upd_ne hDa, upd_ne hDp, upd_ne hDa, hm, List.map_id']
      · refine tOf ?_
        rw [upd_ne npa.symm, upd_same]
theorem mk_row {K : PySem.W.Frag} {C : Addr} {H : Hp} {Q : VK} {E : XK} {p1 p2 : Addr} {r : RV} (s1 : SqT K H p1 (zI r.early)) (s2 : SqT K H p2 (zI r.offs)) (rb : RB r) (h : ∀ x H', Ex H H' → H x = none → RowAt K C H' x r → Q (.ref x) H') :
    ∀ x dx, H x = none → H dx = none → dx ≠ x → spInit K C (V.ref x :: [.ref p1, .int r.beg, .int r.len, .ref p2]) (upd (upd H dx (.own x)) x (.ins C dx [])) (fun v H2 => v = .non ∧ Q (.ref x) H2) E := by
  intro x dx hx hdx hne
  have e0 : Ex H (upd (upd H dx (.own x)) x (.ins C dx [])) := fun y o hy => by
    rw [upd_ne (ne_of_none hy hx), upd_ne (ne_of_none hy hdx)]; exact hy
  refine ⟨x, dx, p1, p2, r, rfl, upd_same, e0.sqT s1, e0.sqT s2, rb, fun H' k R => ⟨rfl, h x H' (fun y o hy => k y o (ne_of_none hy hx) (e0 y o hy)) hx R⟩⟩
end
end TkL


namespace TkL
open PySem PySem.Spec PySem.Calls PyProof.Rows L2 Tk
section
variable {K : PySem.W.Frag} {C : Addr} {H : Hp} {Q : VK} {σ : L2.St}
theorem cut_lo {l : List Int} {k : Int} (h0 : 0 ≤ k) : cutV (zI l) (some k) none = zI (l.drop k.toNat) := by
  obtain ⟨n, rfl⟩ : ∃ n : Nat, k = n := ⟨k.toNat, by omega⟩
  unfold cutV
  rw [HT.sIx_nat, HT.sIx_none, zI_len]
  have e : (zI l).drop (min n l.length) = zI (l.drop n) := by
    unfold zI
    rw [List.map_drop]
    by_cases h : n ≤ l.length
    · rw [Nat.min_eq_left h]
    · rw [Nat.min_eq_right (by omega), List.drop_eq_nil_of_le (by simp), List.drop_eq_nil_of_le (by simp; omega)]
  rw [e, List.take_of_length_le (by rw [zI_len, List.length_drop]; omega)]
  simp
theorem cut_hi {l : List Int} {k : Int} (h0 : 0 ≤ k) : cutV (zI l) none (some k) = zI (l.take k.toNat) := by
  obtain ⟨n, rfl⟩ : ∃ n : Nat, k = n := ⟨k.toNat, by omega⟩
  unfold cutV
  rw [HT.sIx_nat, HT.sIx_none, zI_len, List.drop_zero, Nat.sub_zero]
  unfold zI
  rw [← List.map_take]
  congr 1
  rw [List.take_eq_take_iff]
  simp
theorem cut_lh {l : List Int} {j k : Int} (h0 : 0 ≤ j) (h1 : 0 ≤ k) : cutV (zI l) (some j) (some k) = zI ((l.drop j.toNat).take (k.toNat - j.toNat)) := by
  obtain ⟨m, rfl⟩ : ∃ n : Nat, j = n := ⟨j.toNat, by omega⟩
  obtain ⟨n, rfl⟩ : ∃ n : Nat, k = n := ⟨k.toNat, by omega⟩
  unfold cutV
  rw [HT.sIx_nat, HT.sIx_nat, zI_len]
  unfold zI
  rw [← List.map_drop, ← List.map_take]
  congr 1
  apply List.ext_getElem?
  intro i
  simp only [List.getElem?_take, List.getElem?_drop, Int.toNat_natCast]
  by_cases c : m ≤ l.length
  · rw [Nat.min_eq_left c]
    by_cases d : n ≤ l.length
    · rw [Nat.min_eq_left d]
    · rw [Nat.min_eq_right (by omega)]
      by_cases e : i < l.length - m
      · rw [if_pos e, if_pos (by omega)]
      · rw [if_neg e]
        split
        · rw [List.getElem?_eq_none (by omega)]
        · rfl
  · rw [Nat.min_eq_right (a := m) (by omega)]
    have e1 : l[l.length + i]? = none := List.getElem?_eq_none (by omega)
    have e2 : l[m + i]? = none := List.getElem?_eq_none (by omega)
    rw [e1, e2]
    split <;> split <;> rfl
theorem x_slL {p : Addr} {l : List Int} {lo hi : Option Int} {m : List Int} (s : SqL K H p (zI l)) (e : cutV (zI l) lo hi = zI m) (h : ∀ q H', Ex H H' → H q = none → H' q = some (.lst (zI m)) → Q (.ref q) H') : rSlL K (.ref p) lo hi H Q :=
  ⟨p, _, rfl, s, fun q hq => by rw [e]; exact h q _ (Ex.new hq) hq upd_same⟩
theorem x_cat {p q : Addr} {l m : List Int} (s : H p = some (.lst (zI l))) (t : H q = some (.lst (zI m))) (hz : l.length + m.length ≤ 1000000) (h : ∀ r H', Ex H H' → H r = none → H' r = some (.lst (zI (l ++ m))) → Q (.ref r) H') : rCat (.ref p) (.ref q) H Q :=
  ⟨p, q, _, _, rfl, rfl, s, t, by rw [zI_len, zI_len]; exact sz_of hz, x_new (by rw [zI_app]; exact h)⟩
theorem x_popR {p : Addr} {l : List Int} {x : Int} (s : H p = some (.lst (zI (l ++ [x])))) (h : Q (.int x) (upd H p (.lst (zI l)))) : rPop (.ref p) [] H Q := by
  refine ⟨p, _, .int x, rfl, rfl, s, ?_, ?_⟩
  · rw [zI_len, List.length_append, List.length_singleton, Nat.add_sub_cancel]
    unfold zI
    rw [List.map_append, List.getElem?_append_right (by simp)]
    simp
  · have e : (zI (l ++ [x])).dropLast = zI l := by unfold zI; rw [List.map_append]; simp
    rw [e]; exact h
theorem x_def1 {ty : TE} {o : HO} {H' : Hp} : True := trivial
theorem take_succ' {l : List Int} {i : Nat} {x : Int} (h : l[i]? = some x) : l.take (i + 1) = l.take i ++ [x] := take_succ_of h
end
section
variable {K : PySem.W.Frag} {C : Addr}
theorem rdPticks_of (T : TyF K C) (vs : List V) (H : Hp) (Q : VK) (E : XK) (h : spTicksOf K vs H Q E) : tPticks_of K { nx := fun _ H' => Q .non H', rt := Q } (start ["numbers", "ticks", "lap"] vs) H := by
  obtain ⟨p, ns, rfl, s, hne, hz, h⟩ := h
  obtain ⟨a, l, rfl⟩ : ∃ a l, ns = a :: l := by cases ns with
    | nil => exact absurd rfl hne
    | cons a l => exact ⟨a, l, rfl⟩
  unfold tPticks_of
  walk_at "rd"
  refine x_lst ?_
  walk_at "rd"
  refine x_ixL s (atI_zI (by omega) (by simp)) ?_
  walk_at "rd"
  refine ⟨by show 1 ≤ sizeLine; decide, ?_⟩
  (intro L hL; generalize hX : upd _ L _ = H1; have e1 := ex_of hX hL; have hl := at_of hX; clear hX)
  walk_at "rd"
  refine x_for (x_ilist ?_)
  walk_at "rd"
  refine x_slL (e1.sqL s) (cut_lo (by omega)) fun q H2 e2 hq h2 => ?_
  walk_at "rd"
  refine ⟨⟨_, lOf h2⟩, ?_⟩
  have hLq : L ≠ q := fun e => by subst e; rw [hl] at hq; cases hq
  have e12 := e1.trans e2
  let H0 : Hp := upd H q (.lst (zI l))
  have hqH : H q = none := e1.back hq
  have E0 : ∀ {H' : Hp}, Ex H H' → H' q = some (.lst (zI l)) → Ex H0 H' := fun e hh x o hx => by
    by_cases c : x = q
    · subst c; rw [show H0 x = some (.lst (zI l)) from upd_same] at hx; cases hx; exact hh
    · rw [show H0 x = H x from upd_ne c] at hx; exact e _ _ hx
  refine for_wk (H0 := H0) (Wk.list (lOf upd_same)) (fun i σ H' => ∃ u, σ = [some (.ref p), some (.ref L), u] ∧ Ex H H' ∧ H' q = some (.lst (zI l)) ∧ H' L = some (.lst (zI (tks a (l.take i))))) ⟨_, rfl, e12, h2, e2 _ _ hl⟩ (fun i σ H' ⟨_, _, e, hh, _⟩ => E0 e hh) ?_ ?_
  · rintro i x σ H3 hx ⟨u, rfl, e3, hq3, hl3⟩
    obtain ⟨n, hn, rfl⟩ := zI_get hx
    have hi := lt_of_get hn
    walk_at "rd"
    refine x_ty hl3 ?_
    walk_at "rd"
    refine x_ixL (lOf hl3) (by rw [tks_split]; exact atI_last) ?_
    walk_at "rd"
    refine x_appR hl3 (by rw [tks_len, List.length_take]; rw [List.length_cons] at hz; omega) ?_
    refine ⟨_, rfl, e3.mut hL, by rw [upd_ne hLq.symm]; exact hq3, ?_⟩
    rw [upd_same, take_succ' hn, tks_snoc]
  · rintro σ H3 ⟨u, rfl, e3, hq3, hl3⟩
    rw [zI_len, List.take_length] at hl3
    walk_at "rd"
    exact h H3 L e3 hL hl3
theorem rdProw_of_laps (T : TyF K C) (vs : List V) (H : Hp) (Q : VK) (E : XK) (h : spRowOfLaps K C vs H Q E) : tProw_of_laps K C { nx := fun _ H' => Q .non H', rt := Q } (start ["start", "first", "laps", "early", "begin", "offsets", "length"] vs) H := by
  obtain ⟨s, pf, pl, fs, ls, rfl, sf, sl, h0, hf, hl, hn, hb, hL, h⟩ := h
  have g1 := sum_ge hf
  have g2 := sum_ge hl
  unfold tProw_of_laps
  walk_at "rd"
  refine x_lst ?_
  walk_at "rd"
  refine ⟨by show 1 ≤ sizeLine; decide, ?_⟩
  (intro A hA; generalize hX : upd _ A _ = H1; have e1 := ex_of hX hA; have hA1 := at_of hX; clear hX)
  walk_at "rd"
  have sf1 : Seq K H1 pf (zI fs) := sf.imp e1.sqL e1.sqT
  refine x_listT sf1 fun B H2 e2 hB hB2 => ?_
  walk_at "rd"
  refine x_cat (l := [s]) (e2 _ _ hA1) hB2 (by simp; omega) fun D H3 e3 hD hD3 => ?_
  walk_at "rd"
  refine ⟨D, _, rfl, lOf hD3, by simp, by simp; omega, fun H4 F e4 hF hF4 => ?_⟩
  have e14 : Ex H H4 := e1.trans (e2.trans (e3.trans e4))
  have hFH : H F = none := (e1.trans (e2.trans e3)).back hF
  walk_at "rd"
  refine x_ty hF4 ?_
  have hF4' : H4 F = some (.lst (zI ((tks s fs).dropLast ++ [s + fs.sum]))) := by rw [hF4, ← tks_split]; rfl
  refine x_popR hF4' ?_
  walk_at "rd"
  have e5 : Ex H (upd H4 F (.lst (zI (tks s fs).dropLast))) := e14.mut hFH
  refine x_lst ?_
  walk_at "rd"
  refine ⟨by show 1 ≤ sizeLine; decide, ?_⟩
  (intro A2 hA2; generalize hX : upd _ A2 _ = H6; have e6 := ex_of hX hA2; have hA6 := at_of hX; clear hX)
  walk_at "rd"
  have sl6 : Seq K H6 pl (zI ls) := sl.imp (e5.trans e6).sqL (e5.trans e6).sqT
  refine x_listT sl6 fun B2 H7 e7 hB2 hB7 => ?_
  walk_at "rd"
  refine x_cat (l := [0]) (e7 _ _ hA6) hB7 (by simp; omega) fun D2 H8 e8 hD2 hD8 => ?_
  walk_at "rd"
  refine ⟨D2, _, rfl, lOf hD8, by simp, by simp; omega, fun H9 F2 e9 hF2 hF9 => ?_⟩
  have e69 := e6.trans (e7.trans (e8.trans e9))
  have hF2' : upd H4 F (.lst (zI (tks s fs).dropLast)) F2 = none := (e6.trans (e7.trans e8)).back hF2
  have hF2H : H F2 = none := e5.back hF2'
  have hFF : F ≠ F2 := fun e => by subst e; rw [upd_same] at hF2'; cases hF2'
  have hF9F := e69 _ _ (upd_same (H := H4) (a := F) (o := .lst (zI (tks s fs).dropLast)))
  walk_at "rd"
  refine x_ty hF9 ?_
  have hF9' : H9 F2 = some (.lst (zI ((tks 0 ls).dropLast ++ [0 + ls.sum]))) := by rw [hF9, ← tks_split]; rfl
  refine x_popR hF9' ?_
  walk_at "rd"
  have e10 : Ex H (upd H9 F2 (.lst (zI (tks 0 ls).dropLast))) := (e5.trans e69).mut hF2H
  have wf := plan_wf h0 hf hl hn
  refine ⟨F, F2, (tks s fs).dropLast, s + fs.sum, ls.sum, (tks 0 ls).dropLast, by rw [Int.zero_add], lOf (by rw [upd_ne hFF]; exact hF9F), .inl (lOf upd_same), wf, by omega, by omega, fun H11 a r e11 ha R hr => ?_⟩
  exact h H11 a r (e10.trans e11) (e10.back ha) R hr
theorem rdProw_of_ticks (T : TyF K C) (vs : List V) (H : Hp) (Q : VK) (E : XK) (h : spRowOfTicks K C vs H Q E) : tProw_of_ticks K C { nx := fun _ H' => Q .non H', rt := Q } (start ["ticks"] vs) H := by
  obtain ⟨p, ts, rfl, s, hne, hp, hr, h⟩ := h
  obtain ⟨l, x, rfl⟩ : ∃ l x, ts = l ++ [x] := ⟨ts.dropLast, ts.getLast hne, (List.dropLast_concat_getLast hne).symm⟩
  have hx := hr x (by simp)
  unfold tProw_of_ticks
  walk_at "rd"
  refine x_ixL s atI_last ?_
  walk_at "rd"
  intro D H1 e1 hD hD1
  walk_at "rd"
  have hall : ∀ y ∈ l ++ [x], 0 ≤ y ∧ y < x + 1 := fun y hy => by
    refine ⟨(hr y hy).1, ?_⟩
    rw [List.pairwise_append] at hp
    rcases List.mem_append.mp hy with z | z
    · have := hp.2.2 y z x (by simp); omega
    · rw [List.mem_singleton.mp z]; omega
  refine ⟨p, D, _, _, _, [], rfl, e1.sqL s, .inl (lOf hD1), ⟨hp, hall, by omega, by omega, List.Pairwise.nil, fun _ z => absurd z List.not_mem_nil⟩, by omega, by omega, fun H2 a r e2 ha R hrr => ?_⟩
  refine h H2 a r (e1.trans e2) (e1.back ha) R fun t => ?_
  rw [hrr t]
  unfold qhas
  split
  · rfl
  · rename_i c
    simp only [List.not_mem_nil, decide_false]
    exact (decide_eq_false fun z => by have := (hall t z).2; omega).symm
end
end TkL


namespace TkL
open PySem PySem.Spec PySem.Calls PyProof.Rows L2 Tk
section
variable {K : PySem.W.Frag} {C : Addr} {H : Hp} {Q : VK} {σ : L2.St}
theorem x_iseq {tl : TE} {R : It → Hp → Prop} (h : tl σ H fun x H1 => ∃ a xs, x = .ref a ∧ (SqL K H1 a xs ∨ SqT K H1 a xs) ∧ ∀ J, Wk J H1 xs → R J H1) : iSeq K tl σ H R := h
theorem Seq.ex {H H' : Hp} {p : Addr} {xs : List V} (s : Seq K H p xs) (e : Ex H H') : Seq K H' p xs := s.imp e.sqL e.sqT
theorem x_irng2 {ta : TA} {R : It → Hp → Prop} (h : ta σ H fun vs H1 => ∃ i j, vs = [.int i, .int j] ∧ (-2 ^ 62 ≤ i ∧ i < 2 ^ 62 ∧ -2 ^ 62 ≤ j ∧ j < 2 ^ 62) ∧ R (Itr i (j - i).toNat) H1) : iRng2 ta σ H R := h
theorem map_bl {l : List Int} {f : Int → Bool} : (l.map fun n => V.bl (f n)) = (l.map f).map V.bl := by rw [List.map_map]; rfl
end
section
variable {K : PySem.W.Frag} {C : Addr}
theorem rdPshortest (T : TyF K C) (vs : List V) (H : Hp) (Q : VK) (E : XK) (h : spShortest K vs H Q E) : tPshortest K { nx := fun _ H' => Q .non H', rt := Q } (start ["length", "offsets", "marks", "size", "offset"] vs) H := by
  obtain ⟨l, p, o, rfl, s, l1, l2, ow, ol, h⟩ := h
  unfold tPshortest
  walk_at "rd"
  refine x_dc (x_iseq ?_)
  walk_at "rd"
  refine ⟨p, _, rfl, s, fun J W => ?_⟩
  refine dcfI W (fun n => n) (by omega) (fun n H' Qv _ e q => ?_) (fun n H' Qv _ e q => ?_) (fun D H1 e1 hD hm => ?_)
  · walk_at "rd"; exact q
  · walk_at "rd"; exact q
  rw [List.map_id'] at hm
  walk_at "rd"
  refine x_for (x_irng2 ?_)
  walk_at "rd"
  refine ⟨_, _, rfl, by omega, ?_⟩
  refine for_wk (H0 := H1) (Wk.rng (lo := 1)) (fun i σ H' => ∃ u, σ = [some (.int l), some (.ref p), some (.ref D), u, none] ∧ Ex H1 H' ∧ ∀ m : Int, 1 ≤ m → m < 1 + (i : Int) → ¬ (l % m = 0 ∧ Closed l o m)) ⟨_, rfl, Ex.refl _, fun m a b => by omega⟩ (fun i σ H' ⟨_, _, e, _⟩ => e) ?_ ?_
  · rintro i x σ H2 hx ⟨u, rfl, e2, hmn⟩
    have hi := lt_of_get hx
    rw [rngV_length] at hi
    rw [rngV_get hi] at hx
    cases hx
    walk_at "rd"
    refine x_rI (by omega) ?_
    walk_at "rd"
    refine x_rEq rfl ?_
    walk_at "rd"
    have nope : ∀ {H' : Hp}, Ex H1 H' → ¬ (l % (1 + (i : Int)) = 0 ∧ Closed l o (1 + (i : Int))) → ∃ u, [some (V.int l), some (V.ref p), some (V.ref D), some (V.int (1 + (i : Int))), none] = [some (V.int l), some (V.ref p), some (V.ref D), u, none] ∧ Ex H1 H' ∧ ∀ m : Int, 1 ≤ m → m < 1 + ((i + 1 : Nat) : Int) → ¬ (l % m = 0 ∧ Closed l o m) := fun e hc => ⟨_, rfl, e, fun m a b => by
      by_cases c : m = 1 + (i : Int)
      · subst c; exact hc
      · exact hmn m a (by omega)⟩
    by_cases c : l % (1 + (i : Int)) = 0
    · have e : decide (V.int (l % (1 + (i : Int))) = V.int 0) = true := decide_eq_true (by rw [c])
      rw [e]
      refine iteT ?_
      walk_at "rd"
      refine x_lc (x_iseq ?_)
      walk_at "rd"
      have s2 : Seq K H2 p (zI o) := s.ex (e1.trans e2)
      refine ⟨p, _, rfl, s2, fun J2 W2 => ?_⟩
      refine lcfI W2 (fun _ => true) (fun n => .bl (decide ((n + (1 + (i : Int))) % l ∈ o))) (by omega) (fun n H' Qb _ e q => q) (fun n H' Qv _ _ e q => ?_) (fun F H3 e3 hF hl => ?_)
      · refine x_din (t := (n + (1 + (i : Int))) % l) (p := D) (o := o) (fun P z => ?_) (fun P z => ?_) (.inl (e _ _ (e2 _ _ hm))) q
        · walk_at "rd"
          exact x_rI (by omega) z
        · walk_at "rd"; exact z
      · rw [List.filter_eq_self.mpr (fun _ _ => rfl), map_bl] at hl
        walk_at "rd"
        refine ⟨F, _, rfl, lOf hl, ?_⟩
        walk_at "rd"
        have ea : (o.map fun n => decide ((n + (1 + (i : Int))) % l ∈ o)).all id = true ↔ Closed l o (1 + (i : Int)) := by
          rw [List.all_map, List.all_eq_true]
          simp only [Function.comp, id, decide_eq_true_iff]
          rfl
        cases hb : (o.map fun n => decide ((n + (1 + (i : Int))) % l ∈ o)).all id with
        | true =>
          refine iteT ?_
          walk_at "rd"
          exact h H3 _ (e1.trans (e2.trans e3)) ⟨by omega, by omega, c, ea.mp hb, fun m a b => hmn m a b⟩
        | false =>
          refine iteF ?_
          walk_at "rd"
          exact nope (e2.trans e3) fun z => by rw [ea.mpr z.2] at hb; cases hb
    · have e : decide (V.int (l % (1 + (i : Int))) = V.int 0) = false := decide_eq_false fun z => c (V.int.inj z)
      rw [e]
      refine iteF ?_
      refine iteF ?_
      walk_at "rd"
      exact nope e2 fun z => c z.1
  · rintro σ H2 ⟨u, rfl, e2, hmn⟩
    rw [rngV_length] at hmn
    walk_at "rd"
    exact h H2 l (e1.trans e2) ⟨l1, by omega, by simp, closed_all l1 ow, fun m a b => hmn m a (by omega)⟩
end
end TkL


namespace TkL
open PySem PySem.Spec PySem.Calls PyProof.Rows L2 Tk
section
variable {K : PySem.W.Frag} {C : Addr} {H : Hp} {Q : VK} {σ : L2.St}
theorem x_ikeys {td : TE} {R : It → Hp → Prop} (h : td σ H fun x H1 => ∃ d o, x = .ref d ∧ ((∃ kvs, H1 d = some (.frz o (.dK kvs)) ∧ R (Itk d o kvs) H1) ∨ ∃ kvs, H1 d = some (.frz o (.dT kvs)) ∧ R (Itkt d o kvs) H1)) : iKeys td σ H R := h
theorem x_lock {t : TS} {D : Ends} {d : Addr} {u : HO} (h1 : H d = some u) (h2 : Mut (some u)) (h : ∀ od : Obj, t { nx := fun σ' H' => H' d = some (.frz od u) ∧ D.nx σ' (upd H' d u), rt := fun v H' => H' d = some (.frz od u) ∧ D.rt v (upd H' d u), bk := fun σ' H' => H' d = some (.frz od u) ∧ D.bk σ' (upd H' d u), ct := fun σ' H' => H' d = some (.frz od u) ∧ D.ct σ' (upd H' d u) } σ (upd H d (.frz od u))) : tLock t D σ H := ⟨d, u, h1, h2, h⟩
theorem x_lockE {t : TE} {d : Addr} {u : HO} (h1 : H d = some u) (h2 : Mut (some u)) (h : ∀ od : Obj, t σ (upd H d (.frz od u)) fun v H' => H' d = some (.frz od u) ∧ Q v (upd H' d u)) : tLockE t σ H Q := ⟨d, u, h1, h2, h⟩
theorem unlock {H' : Hp} {d : Addr} {u : HO} {od : Obj} (h1 : H d = some u) (e : Ex (upd H d (.frz od u)) H') : Ex H (upd H' d u) := fun x o hx => by
  by_cases c : x = d
  · subst c; rw [h1] at hx; cases hx; exact upd_same
  · rw [upd_ne c]; exact e x o (by rw [upd_ne c]; exact hx)
theorem x_sorted {p : Addr} {l : List Int} (s : SqL K H p (zI l)) (h : ∀ m q H', Ex H H' → H q = none → m.Perm l → m.Pairwise (· ≤ ·) → H' q = some (.lst (zI m)) → Q (.ref q) H') : rSortedI K [.ref p] H Q :=
  ⟨p, l, rfl, s, fun m q h1 h2 hq => h m q _ (Ex.new hq) hq h1 h2 upd_same⟩
theorem map_int {l : List Int} {f : Int → Int} : (l.map fun n => V.int (f n)) = zI (l.map f) := by unfold zI; rw [List.map_map]; rfl
theorem strict {l : List Int} (h : l.Pairwise (· ≤ ·)) (n : l.Nodup) : l.Pairwise (· < ·) := by
  induction l with
  | nil => exact List.Pairwise.nil
  | cons a l ih =>
    rw [List.pairwise_cons] at h ⊢
    rw [List.nodup_cons] at n
    refine ⟨fun b hb => ?_, ih h.2 n.2⟩
    have := h.1 b hb
    have : a ≠ b := fun e => n.1 (by rw [e]; exact hb)
    omega
end
section
variable {K : PySem.W.Frag} {C : Addr}
theorem rdPnormal (T : TyF K C) (vs : List V) (H : Hp) (Q : VK) (E : XK) (h : spNormal K C vs H Q E) : tPnormal K C { nx := fun _ H' => Q .non H', rt := Q } (start ["early", "begin", "length", "offsets", "size", "marks", "last", "back", "left", "found", "is_early", "offset", "mark"] vs) H := by
  obtain ⟨pe, po, e, b, l, o, rfl, se, so, w, hb, hl, h⟩ := h
  have b0 := w.b0
  have l1 := w.l1
  have hel : (e.length : Int) ≤ b := by have := len_of_range w.es w.er b0; omega
  have hol : (o.length : Int) ≤ l := by have := len_of_range w.os w.ow (by omega); omega
  unfold tPnormal
  walk_at "rd"
  refine ⟨po, _, rfl, so, ?_⟩
  rw [zI_len]
  walk_at "rd"
  refine x_rEq rfl ?_
  walk_at "rd"
  by_cases c : o = []
  · -- a row with a last tick
    subst c
    refine iteT ?_
    walk_at "rd"
    refine ⟨pe, _, rfl, .inl ⟨se, ?_⟩⟩
    (intro p1 hp1; generalize hX : upd _ p1 _ = H1; have e1 := ex_of hX hp1; have h1 := at_of hX; clear hX)
    walk_at "rd"
    refine x_lenL (e1.sqL se) ?_
    walk_at "rd"
    have fin : ∀ z, ((e = [] ∧ z = 0) ∨ ∃ y ∈ e, z = y + 1 ∧ ∀ x ∈ e, x ≤ y) → z ≤ b → ∀ p2 H2, Ex H1 H2 → H2 p2 = some (.tup []) → ∀ x dx, H2 x = none → H2 dx = none → dx ≠ x → spInit K C (V.ref x :: [V.ref p1, .int z, .int 1, .ref p2]) (upd (upd H2 dx (.own x)) x (.ins C dx [])) (fun v H2 => v = .non ∧ Q (.ref x) H2) E0 := fun z hz hzb p2 H2 e2 h2 => by
      have fc := finite_canon (b := z) w.es (fun x hx => (w.er x hx).1) hz
      refine mk_row (r := ⟨e, z, 1, []⟩) (tOf (e2 _ _ h1)) (tOf h2) ⟨fc.1, by show z ≤ 200000; omega, by show (1 : Int) ≤ 20000; omega⟩ fun x H3 e3 hx R => ?_
      refine h H3 x _ (e1.trans (e2.trans e3)) ((e1.trans e2).back hx) R fun t => ?_
      rw [fc.2 t]
      unfold qhas
      split
      · rfl
      · rename_i ct
        simp only [List.not_mem_nil, decide_false]
        exact decide_eq_false fun hm => by have := (w.er t hm).2; omega
    refine x_iteD (fun c => ?_) (fun c => ?_)
    · have hne : e ≠ [] := fun z => by subst z; simp at c
      obtain ⟨f, x, rfl⟩ : ∃ f x, e = f ++ [x] := ⟨e.dropLast, e.getLast hne, (List.dropLast_concat_getLast hne).symm⟩
      have hx := w.er x (by simp)
      walk_at "rd"
      refine x_ixL (e1.sqL se) atI_last ?_
      walk_at "rd"
      intro p2 H2 e2 hp2 h2
      walk_at "rd"
      refine fin (x + 1) (.inr ⟨x, by simp, rfl, fun y hy => ?_⟩) (by omega) p2 H2 e2 h2
      have hp := w.es
      rw [List.pairwise_append] at hp
      rcases List.mem_append.mp hy with z | z
      · have := hp.2.2 y z x (by simp); omega
      · rw [List.mem_singleton.mp z]; omega
    · have hne : e = [] := List.eq_nil_of_length_eq_zero (by omega)
      walk_at "rd"
      intro p2 H2 e2 hp2 h2
      walk_at "rd"
      exact fin 0 (.inl ⟨hne, rfl⟩) b0 p2 H2 e2 h2
  · have hob : decide (V.int (o.length : Int) = V.int 0) = false := decide_eq_false fun z => c (List.eq_nil_of_length_eq_zero (by have := V.int.inj z; omega))
    rw [hob]
    refine iteF ?_
    walk_at "rd"
    refine ⟨l, po, o, rfl, so, l1, hl, w.ow, by omega, fun H1 n e1 hs => ?_⟩
    have hn := hs.n1
    have hnl := hs.nl
    show gName _ _ _ _ _
    walk_at "rd"
    refine x_dc (x_iseq ?_)
    walk_at "rd"
    refine ⟨po, _, rfl, so.ex e1, fun J W => ?_⟩
    refine dcfI W (fun x => x % n) (by omega) (fun x H' Qv _ e q => ?_) (fun x H' Qv _ e q => ?_) (fun D H2 e2 hD hm => ?_)
    · walk_at "rd"; exact x_rI (by omega) q
    · walk_at "rd"; exact q
    walk_at "rd"
    refine x_tup ?_
    walk_at "rd"
    refine x_lenL ((e1.trans e2).sqL se) ?_
    walk_at "rd"
    refine ⟨by show 3 ≤ sizeLine; decide, ?_⟩
    (intro p3 hp3; generalize hX : upd _ p3 _ = H3; have e3 := ex_of hX hp3; have h3 := at_of hX; clear hX)
    refine x_gtup3 (tOf h3) ?_
    walk_at "rd"
    have e13 := e1.trans (e2.trans e3)
    refine x_while (fun m σ H' => ∃ c k u, σ = [some (.ref pe), some (.int b), some (.int l), some (.ref po), some (.int n), some (.ref D), some (.int c), some (.int (b - c)), some (.int (k : Nat)), none, u, none, none] ∧ Ex H3 H' ∧ m = c.toNat ∧ 0 ≤ c ∧ c ≤ b ∧ k ≤ e.length ∧ (∀ y ∈ e.take k, y < c) ∧ (∀ y ∈ e.drop k, c ≤ y) ∧ ∀ t, c ≤ t → t < b → decide (t ∈ e) = cyc o n (t - b))
      b.toNat ⟨b, e.length, none, by rw [Int.sub_self]; rfl, Ex.refl _, rfl, b0, Int.le_refl _, Nat.le_refl _, fun y hy => (w.er y (List.mem_of_mem_take hy)).2, fun y hy => by rw [List.drop_length] at hy; exact absurd hy List.not_mem_nil, fun t h1 h2 => by omega⟩ ?_
    rintro m σ H4 ⟨c, k, u, rfl, e4, rfl, hc0, hcb, hk, htk, hdr, same⟩
    have e14 := e13.trans e4
    have out : ∀ (u : Option V) (H5 : Hp), Ex H3 H5 → (c = 0 ∨ decide (c - 1 ∈ e) ≠ cyc o n (c - 1 - b)) →
        tSeq (tLock (tAsg (tLc (iKeys (tVar 5)) (gName 12) tYes (tOp (rI (fun _ j => 0 < j) fun i j => V.int (i % j)) (tOp (rI0 fun i j => V.int (i + j)) (tVar 12) (tVar 7)) (tVar 4)) [12]) (gName 9)))
          (tRet (tMk C (spInit K C) E0 (tCons (tCB (kTuple K) (tCons (L2.tSl (rSlL K) (tVar 0) tNoPart (tPart (tVar 8))) tNil)) (tCons (tVar 6) (tCons (tVar 4) (tCons (tCB (kTuple K) (tCons (tCB (rSortedI K) (tCons (tLc (iList K (tVar 9)) (gName 12) tYes (tCB kInt (tCons (tVar 12) tNil)) [12]) tNil)) tNil)) tNil))))))
          { nx := fun x H' => Q V.non H', rt := Q } [some (.ref pe), some (.int b), some (.int l), some (.ref po), some (.int n), some (.ref D), some (.int c), some (.int (b - c)), some (.int (k : Nat)), none, u, none, none] H5 := fun u H5 e5 stop => by
      have hm5 := e5 _ _ (e3 _ _ hm)
      walk_at "rd"
      refine x_lock hm5 trivial fun od => ?_
      walk_at "rd"
      refine x_lc (x_ikeys ?_)
      walk_at "rd"
      refine ⟨D, od, rfl, .inl ⟨_, upd_same, ?_⟩⟩
      obtain ⟨zs, z1, z2, z3, z4⟩ := mkD_keys (o.map fun x => x % n)
      have W2 : Wk (Itk D od (mkD (o.map fun x => x % n))) (upd H5 D (.frz od (.dK (mkD (o.map fun x => x % n))))) (zI zs) := by
        have z := Wk.keys (upd_same (H := H5) (a := D) (o := .frz od (.dK (mkD (o.map fun x => x % n)))))
        rw [z1] at z; exact z
      rw [List.length_map] at z4
      refine lcfI W2 (fun _ => true) (fun z => .int ((z + (b - c)) % n)) (by omega) (fun z H' Qb _ e q => q) (fun z H' Qv _ _ e q => ?_) (fun F H6 e6 hF hl6 => ?_)
      · walk_at "rd"; exact x_rI (by omega) q
      rw [List.filter_eq_self.mpr (fun _ _ => rfl), map_int] at hl6
      walk_at "rd"
      refine ⟨e6 _ _ upd_same, ?_⟩
      have e56 := unlock hm5 e6
      have hFD : F ≠ D := fun z => by subst z; rw [upd_same] at hF; cases hF
      have hl7 : (upd H6 D (.dK (mkD (o.map fun x => x % n)))) F = some (.lst (zI (zs.map fun z => (z + (b - c)) % n))) := by rw [upd_ne hFD]; exact hl6
      have hF5 : H5 F = none := by rw [upd_ne hFD] at hF; exact hF
      generalize upd H6 D (.dK (mkD (o.map fun x => x % n))) = H7 at e56 hl7
      have e17 : Ex H H7 := e13.trans (e5.trans e56)
      dsimp only
      walk_at "rd"
      refine x_slL (e17.sqL se) (cut_hi (by omega)) fun p8 H8 e8 hp8 h8 => ?_
      walk_at "rd"
      refine x_tupL h8 fun p9 H9 e9 hp9 h9 => ?_
      walk_at "rd"
      refine x_lc (x_ilist ?_)
      walk_at "rd"
      have hl9 := (e8.trans e9) _ _ hl7
      refine ⟨⟨_, lOf hl9⟩, ?_⟩
      refine lcfI (Wk.list (lOf hl9)) (fun _ => true) V.int (by rw [List.length_map]; omega) (fun z H' Qb _ e q => q) (fun z H' Qv _ _ e q => ?_) (fun G H10 e10 hG hl10 => ?_)
      · walk_at "rd"; exact q
      rw [List.filter_eq_self.mpr (fun _ _ => rfl)] at hl10
      walk_at "rd"
      refine x_sorted (lOf hl10) fun ns q11 H11 e11 hq11 perm srt h11 => ?_
      walk_at "rd"
      refine x_tupL h11 fun p12 H12 e12 hp12 h12 => ?_
      walk_at "rd"
      have hmem : ∀ y, y ∈ ns ↔ ∃ x ∈ o, (x % n + (b - c)) % n = y := fun y => by
        rw [perm.mem_iff, List.mem_map]
        constructor
        · rintro ⟨z, hz, rfl⟩
          obtain ⟨x, hx, rfl⟩ := List.mem_map.mp ((z3 z).mp hz)
          exact ⟨x, hx, rfl⟩
        · rintro ⟨x, hx, rfl⟩
          exact ⟨x % n, (z3 _).mpr (List.mem_map.mpr ⟨x, hx, rfl⟩), rfl⟩
      have hnd : ns.Nodup := by
        rw [perm.nodup_iff]
        rw [List.Nodup, List.pairwise_map]
        refine z2.imp_of_mem fun {x y} hx hy hne heq => hne ?_
        obtain ⟨x0, _, ex0⟩ := List.mem_map.mp ((z3 x).mp hx)
        obtain ⟨y0, _, ey0⟩ := List.mem_map.mp ((z3 y).mp hy)
        have hx1 : x % n = x := by rw [← ex0]; exact Int.emod_emod_of_dvd _ (Int.dvd_refl n)
        have hy1 : y % n = y := by rw [← ey0]; exact Int.emod_emod_of_dvd _ (Int.dvd_refl n)
        rw [mod_eq_iff] at heq
        have e0 : x + (b - c) - (y + (b - c)) = x - y := by omega
        rw [e0, ← mod_eq_iff, hx1, hy1] at heq
        exact heq
      have hes : (e.take k).Pairwise (· < ·) := w.es.sublist (List.take_sublist _ _)
      have nc := normal_canon (e' := e.take k) (o' := ns) w (by assumption) hs hc0 hcb same stop hes (fun x => take_lt htk hdr) (strict srt hnd) hmem
      have hk2 : ((k : Nat) : Int).toNat = k := by omega
      rw [hk2] at h9
      refine mk_row (r := ⟨e.take k, c, n, ns⟩) (tOf ((e10.trans (e11.trans e12)) _ _ h9)) (tOf h12) ⟨nc.1, by show c ≤ 200000; omega, by show n ≤ 20000; omega⟩ fun x H13 e13' hx R => ?_
      have eall := e17.trans (e8.trans (e9.trans (e10.trans (e11.trans e12))))
      exact h H13 x _ (eall.trans e13') (eall.back hx) R nc.2
    walk_at "rd"
    refine x_iteD (fun cp => ?_) (fun cp => ?_)
    · refine x_whN ?_
      have hse := e14.sqL se
      walk_at "rd"
      have step : ∀ (q : Bool), (q = true ↔ c - 1 ∈ e) → tSeq (tIfS (tTest (tOp rNe (tVar 10) (tDIn (tOp (rI (fun _ j => 0 < j) fun i j => V.int (i % j)) (tOp (rI0 fun i j => V.int (i - j)) (tUn (rU fun i => V.int (-i)) (tC (.int 1))) (tVar 7)) (tVar 4)) (tVar 5)))) tBreak tNext)
          (tAsg (tTup (tCons (tOp (rI0 fun i j => V.int (i - j)) (tVar 6) (tC (.int 1))) (tCons (tOp (rI0 fun i j => V.int (i + j)) (tVar 7) (tC (.int 1))) (tCons (tOp (rI0 fun i j => V.int (i - j)) (tVar 8) (tCB kInt (tCons (tVar 10) tNil))) tNil)))) (gTup K 3 (gCons (gName 6) (gCons (gName 7) (gCons (gName 8) gNil)))))
          { nx := fun σ' H' => ∃ m', m' < c.toNat ∧ ∃ c k u, σ' = [some (.ref pe), some (.int b), some (.int l), some (.ref po), some (.int n), some (.ref D), some (.int c), some (.int (b - c)), some (.int (k : Nat)), none, u, none, none] ∧ Ex H3 H' ∧ m' = c.toNat ∧ 0 ≤ c ∧ c ≤ b ∧ k ≤ e.length ∧ (∀ y ∈ e.take k, y < c) ∧ (∀ y ∈ e.drop k, c ≤ y) ∧ ∀ t, c ≤ t → t < b → decide (t ∈ e) = cyc o n (t - b),
            ct := fun σ' H' => ∃ m', m' < c.toNat ∧ ∃ c k u, σ' = [some (.ref pe), some (.int b), some (.int l), some (.ref po), some (.int n), some (.ref D), some (.int c), some (.int (b - c)), some (.int (k : Nat)), none, u, none, none] ∧ Ex H3 H' ∧ m' = c.toNat ∧ 0 ≤ c ∧ c ≤ b ∧ k ≤ e.length ∧ (∀ y ∈ e.take k, y < c) ∧ (∀ y ∈ e.drop k, c ≤ y) ∧ ∀ t, c ≤ t → t < b → decide (t ∈ e) = cyc o n (t - b),
            bk := tSeq (tLock (tAsg (tLc (iKeys (tVar 5)) (gName 12) tYes (tOp (rI (fun _ j => 0 < j) fun i j => V.int (i % j)) (tOp (rI0 fun i j => V.int (i + j)) (tVar 12) (tVar 7)) (tVar 4)) [12]) (gName 9)))
              (tRet (tMk C (spInit K C) E0 (tCons (tCB (kTuple K) (tCons (L2.tSl (rSlL K) (tVar 0) tNoPart (tPart (tVar 8))) tNil)) (tCons (tVar 6) (tCons (tVar 4) (tCons (tCB (kTuple K) (tCons (tCB (rSortedI K) (tCons (tLc (iList K (tVar 9)) (gName 12) tYes (tCB kInt (tCons (tVar 12) tNil)) [12]) tNil)) tNil)) tNil)))))) { nx := fun x H' => Q V.non H', rt := Q },
            rt := Q } [some (.ref pe), some (.int b), some (.int l), some (.ref po), some (.int n), some (.ref D), some (.int c), some (.int (b - c)), some (.int (k : Nat)), none, some (.bl q), none, none] H4 := fun q hq => by
        walk_at "rd"
        refine x_din (t := (-1 - (b - c)) % n) (p := D) (o := o.map fun x => x % n) (fun P z => ?_) (fun P z => ?_) (.inl (e4 _ _ (e3 _ _ hm))) ?_
        · walk_at "rd"; exact x_rI (by omega) z
        · walk_at "rd"; exact z
        have ecy : decide ((-1 - (b - c)) % n ∈ o.map fun x => x % n) = cyc o n (c - 1 - b) := by
          unfold cyc
          have : -1 - (b - c) = c - 1 - b := by omega
          rw [this]
        rw [ecy]
        refine x_rNe rfl ?_
        walk_at "rd"
        have hqd : q = decide (c - 1 ∈ e) := by rw [Bool.eq_iff_iff, hq, decide_eq_true_iff]
        by_cases ce : q = cyc o n (c - 1 - b)
        · have ed : (!decide (V.bl q = V.bl (cyc o n (c - 1 - b)))) = false := by rw [decide_eq_true (by rw [← ce])]; rfl
          rw [ed]
          refine iteF ?_
          walk_at "rd"
          refine x_tup ?_
          walk_at "rd"
          refine ⟨by show 3 ≤ sizeLine; decide, ?_⟩
          (intro p5 hp5; generalize hX : upd _ p5 _ = H5; have e5 := ex_of hX hp5; have h5 := at_of hX; clear hX)
          refine x_gtup3 (tOf h5) ?_
          have same' : ∀ t, c - 1 ≤ t → t < b → decide (t ∈ e) = cyc o n (t - b) := fun t h1 h2 => by
            by_cases ct : t = c - 1
            · subst ct; rw [← hqd, ce]
            · exact same t (by omega) h2
          have tb := take_back w.es htk hdr hk
          refine ⟨(c - 1).toNat, by omega, c - 1, if q then k - 1 else k, some (.bl q), ?_, e4.trans e5, rfl, by omega, by omega, ?_, ?_, ?_, same'⟩
          · have ek : ((k : Int) - if q = true then 1 else 0) = ((if q then k - 1 else k : Nat) : Int) := by
              cases q with
              | false => simp
              | true =>
                obtain ⟨h0, _⟩ := (last_early w.es htk hdr hk).mp (hq.mp rfl)
                simp; omega
            rw [ek]
            have e6 : b - (c - 1) = b - c + 1 := by omega
            rw [e6]
            rfl
          · split <;> omega
          · cases q with
            | true => exact (tb.1 (hq.mp rfl)).1
            | false => exact (tb.2 (fun z => by have := hq.mpr z; cases this)).1
          · cases q with
            | true => exact (tb.1 (hq.mp rfl)).2
            | false => exact (tb.2 (fun z => by have := hq.mpr z; cases this)).2
        · have ed : (!decide (V.bl q = V.bl (cyc o n (c - 1 - b)))) = true := by rw [decide_eq_false fun z => ce (V.bl.inj z)]; rfl
          rw [ed]
          refine iteT ?_
          walk_at "rd"
          exact out (some (.bl q)) H4 e4 (.inr (by rw [← hqd]; exact ce))
      by_cases ck : (0 : Int) < (k : Nat)
      · rw [decide_eq_true ck]
        refine iteT ?_
        walk_at "rd"
        have hk1 : k - 1 < e.length := by omega
        refine x_ixL hse (atI_zI (by omega) (by omega)) ?_
        walk_at "rd"
        refine x_rEq rfl ?_
        refine x_name ?_
        dsimp only
        refine step _ ?_
        have eg : e.getD ((k : Int) - 1).toNat 0 = e[k - 1] := by
          have : ((k : Int) - 1).toNat = k - 1 := by omega
          rw [this, List.getD_eq_getElem?_getD, List.getElem?_eq_getElem hk1]; rfl
        rw [decide_eq_true_iff, last_early w.es htk hdr hk, eg]
        constructor
        · intro z; exact ⟨by omega, V.int.inj z⟩
        · rintro ⟨_, z⟩; rw [z]
      · rw [decide_eq_false ck]
        refine iteF ?_
        refine x_name ?_
        dsimp only
        refine step false ?_
        rw [last_early w.es htk hdr hk]
        constructor
        · intro z; cases z
        · rintro ⟨z, _⟩; omega
    · exact out u H4 e4 (.inl (by omega))
end
end TkL


namespace TkL
open PySem PySem.Spec PySem.Calls PyProof.Rows L2 Tk
theorem digits_tl : ("0123456789" : Str).cps.toList = [48, 49, 50, 51, 52, 53, 54, 55, 56, 57] := by decide +kernel
theorem rdig_iff {c : Nat} : rdig c = true ↔ 48 ≤ c ∧ c ≤ 57 := by
  unfold rdig
  rw [digits_tl, decide_eq_true_iff]
  constructor
  · intro h
    simp only [List.mem_cons, List.not_mem_nil, or_false] at h
    omega
  · rintro ⟨h1, h2⟩
    have : c = 48 ∨ c = 49 ∨ c = 50 ∨ c = 51 ∨ c = 52 ∨ c = 53 ∨ c = 54 ∨ c = 55 ∨ c = 56 ∨ c = 57 := by omega
    simpa using this
theorem all_digits {w : Str} (h : w.cps.toList.all rdig = true) : NumText.AllDigits w.cps.toList := fun c hc => rdig_iff.mp (List.all_eq_true.mp h c hc)
theorem str_ne {w : Str} (h : 1 ≤ w.length) : w.cps.toList ≠ [] := fun e => by
  have : w.cps.toList.length = 0 := by rw [e]; rfl
  rw [Array.length_toList] at this
  have h2 : w.length = w.cps.size := rfl
  omega
theorem read_ok {w : Str} (h1 : 1 ≤ w.length) (h2 : w.length ≤ 6) (h3 : w.cps.toList.all rdig = true) : intText? w = some ((NumText.digitsVal w.cps.toList : Nat) : Int) := intText_digits (all_digits h3) (str_ne h1) (by omega)
theorem readN_nn {w : Str} {n : Int} (h : readN w = some n) : 0 ≤ n := by
  unfold readN at h
  split at h
  · rename_i c
    rw [read_ok c.1 c.2.1 c.2.2.1] at h
    cases h
    omega
  · cases h
theorem Wk.str {H : Hp} {z : Str} : Wk (Its z) H (z.cps.toList.map fun c => V.str ⟨#[c]⟩) :=
  ⟨fun H' i _ hi => (by rw [List.length_map, Array.length_toList] at hi; exact hi : i < z.cps.size), fun H' i x H'' _ hi ⟨e, c, hc, ex⟩ => ⟨e, by rw [List.getElem?_map, Array.getElem?_toList, hc, ex]; rfl⟩, fun H' i _ hi => (by rw [List.length_map, Array.length_toList] at hi; exact hi : z.cps.size ≤ i)⟩
section
variable {K : PySem.W.Frag} {C : Addr} {H : Hp} {Q : VK} {σ : L2.St}
theorem x_istr {te : TE} {R : It → Hp → Prop} (h : te σ H fun v H1 => ∃ x, v = .str x ∧ R (Its x) H1) : iStr te σ H R := h
theorem x_lenS {z : Str} (hz : z.length ≤ sizeLine) (h : Q (.int z.length) H) : kLenS [.str z] H Q := ⟨z, rfl, hz, h⟩
end
section
variable {K : PySem.W.Frag} {C : Addr}
theorem rdPread_number (T : TyF K C) (vs : List V) (H : Hp) (Q : VK) (E : XK) (h : spReadNumber vs H Q E) : tPread_number K { nx := fun _ H' => Q .non H', rt := Q } (start ["word", "digit"] vs) H := by
  obtain ⟨w, rfl, hz, h⟩ := h
  unfold tPread_number
  walk_at "rd"
  refine x_lenS hz ?_
  walk_at "rd"
  have bad : ∀ H', Ex H H' → readN w = none → Q .non H' := fun H' e hr => by
    have := h H' e
    unfold readV at this
    rw [hr] at this
    exact this
  have none_of : ¬ (1 ≤ w.length ∧ w.length ≤ 6 ∧ w.cps.toList.all rdig = true ∧ ¬ (1 < w.length ∧ w.cps.toList[0]? = some 48)) → readN w = none := fun c => by unfold readN; rw [if_neg c]
  by_cases c1 : (1 : Int) ≤ (w.length : Nat)
  · rw [decide_eq_true c1]
    refine iteT ?_
    walk_at "rd"
    by_cases c2 : ((w.length : Nat) : Int) ≤ 6
    · rw [decide_eq_true c2]
      refine iteF ?_
      walk_at "rd"
      refine x_lc (x_istr ?_)
      walk_at "rd"
      refine ⟨w, rfl, ?_⟩
      have hw6 : w.cps.toList.length ≤ 6 := by rw [Array.length_toList]; have : w.length = w.cps.size := rfl; omega
      refine lcf Wk.str (fun _ => true) (fun v => match v with | .str s => .bl (!s.cps.toList.all rdig) | v => v) (by rw [List.length_map]; omega) (fun i x H' Qb _ e q => q) (fun i x H' Qv hx _ e q => ?_) (fun D H1 e1 hD hl => ?_)
      · obtain ⟨c, hc, rfl⟩ : ∃ c, w.cps.toList[i]? = some c ∧ x = .str ⟨#[c]⟩ := by
          rw [List.getElem?_map] at hx
          cases hh : w.cps.toList[i]? with
          | none => rw [hh] at hx; cases hx
          | some c => rw [hh] at hx; exact ⟨c, rfl, (Option.some.inj hx).symm⟩
        walk_at "rd"
        refine ⟨c, _, rfl, rfl, ?_⟩
        have ec : (!decide (c ∈ ("0123456789" : Str).cps.toList)) = (!(⟨#[c]⟩ : Str).cps.toList.all rdig) := by
          show _ = (!(rdig c && true))
          rw [Bool.and_true]; rfl
        rw [ec]
        exact q
      · have hl2 : H1 D = some (.lst ((w.cps.toList.map fun c => !rdig c).map V.bl)) := by
          rw [hl, List.filter_eq_self.mpr (fun _ _ => rfl), List.map_map, List.map_map]
          congr 2
          apply List.map_congr_left
          intro c _
          show V.bl (!(rdig c && true)) = V.bl (!rdig c)
          rw [Bool.and_true]
        walk_at "rd"
        refine ⟨D, _, rfl, lOf hl2, ?_⟩
        walk_at "rd"
        by_cases c3 : w.cps.toList.all rdig = true
        · have eb : (w.cps.toList.map fun c => !rdig c).any id = false := by
            rw [List.any_map, ← Bool.not_eq_true, List.any_eq_true]
            rintro ⟨c, hc, z⟩
            have := List.all_eq_true.mp c3 c hc
            simp [this] at z
          rw [eb]
          refine iteF ?_
          walk_at "rd"
          refine x_lenS hz ?_
          walk_at "rd"
          have hr := read_ok (w := w) (by omega) (by omega) c3
          have last : ¬ (1 < w.length ∧ w.cps.toList[0]? = some 48) → ∀ H', Ex H H' → kIntS [.str w] H' Q := fun c4 H' e => by
            refine ⟨w, _, rfl, hr, by omega, ?_⟩
            have := h H' e
            unfold readV readN at this
            rw [if_pos ⟨by omega, by omega, c3, c4⟩, hr] at this
            exact this
          refine x_iteD (fun c4 => ?_) (fun c4 => ?_)
          · walk_at "rd"
            have hne := str_ne (w := w) (by omega)
            obtain ⟨d, r, hd⟩ : ∃ d r, w.cps.toList = d :: r := by
              cases hh : w.cps.toList with
              | nil => exact absurd hh hne
              | cons d r => exact ⟨d, r, rfl⟩
            refine ⟨w, 0, d, rfl, rfl, hz, by rw [hd]; simp [atI, ixN], ?_⟩
            walk_at "rd"
            refine x_rEq rfl ?_
            walk_at "rd"
            have e48 : (V.str ⟨#[d]⟩ = V.str "0") ↔ d = 48 := by
              constructor
              · intro z
                have z2 : (⟨#[d]⟩ : Str) = "0" := V.str.inj z
                have z3 : (⟨#[d]⟩ : Str).cps.toList = ("0" : Str).cps.toList := by rw [z2]
                have z4 : ("0" : Str).cps.toList = [48] := by decide +kernel
                rw [z4] at z3
                exact (List.cons.inj z3).1
              · rintro rfl
                have : (⟨#[48]⟩ : Str) = "0" := by decide +kernel
                rw [this]
            refine x_iteD (fun c5 => ?_) (fun c5 => ?_)
            · walk_at "rd"
              refine bad H1 e1 (none_of fun z => z.2.2.2 ⟨by omega, by rw [hd, e48.mp c5]; rfl⟩)
            · walk_at "rd"
              refine last (fun z => c5 (e48.mpr ?_)) H1 e1
              have := z.2
              rw [hd] at this
              exact Option.some.inj this
          · refine iteF ?_
            walk_at "rd"
            exact last (fun z => c4 (by have := z.1; omega)) H1 e1
        · have eb : (w.cps.toList.map fun c => !rdig c).any id = true := by
            rw [List.any_map, List.any_eq_true]
            have : ∃ c ∈ w.cps.toList, rdig c = false := by
              rw [Bool.not_eq_true] at c3
              have := List.all_eq_false.mp c3
              obtain ⟨c, hc, z⟩ := this
              exact ⟨c, hc, by simpa using z⟩
            obtain ⟨c, hc, z⟩ := this
            exact ⟨c, hc, by simp [z]⟩
          rw [eb]
          refine iteT ?_
          walk_at "rd"
          exact bad H1 e1 (none_of fun z => c3 z.2.2.1)
    · rw [decide_eq_false c2]
      refine iteT ?_
      refine iteT ?_
      walk_at "rd"
      exact bad H (Ex.refl H) (none_of fun z => c2 (by have := z.2.1; omega))
  · rw [decide_eq_false c1]
    refine iteF ?_
    walk_at "rd"
    refine iteT ?_
    refine iteT ?_
    walk_at "rd"
    exact bad H (Ex.refl H) (none_of fun z => c1 (by have := z.1; omega))
end
end TkL


namespace TkL
open PySem PySem.Spec PySem.Calls PyProof.Rows L2 Tk
theorem runP_snoc : ∀ (ws : List Str) (i : Nat) (w : Str) (s : PSt), runP i (ws ++ [w]) s = (runP i ws s).bind (stepP (i + ws.length) w)
  | [], i, w, s => by
    show (match stepP i w s with | none => none | some s' => some s') = _
    show _ = stepP (i + 0) w s
    rw [Nat.add_zero]
    cases stepP i w s <;> rfl
  | v :: ws, i, w, s => by
    show (match stepP i v s with | none => none | some s' => runP (i + 1) (ws ++ [w]) s') = (match stepP i v s with | none => none | some s' => runP (i + 1) ws s').bind _
    cases stepP i v s with
    | none => rfl
    | some s' =>
      dsimp only
      rw [runP_snoc ws (i + 1) w s', List.length_cons]
      congr 2
      omega
theorem runP_app : ∀ (ws vs : List Str) (i : Nat) (s : PSt), runP i (ws ++ vs) s = (runP i ws s).bind (runP (i + ws.length) vs)
  | [], vs, i, s => by show runP i vs s = runP (i + 0) vs s; rw [Nat.add_zero]
  | v :: ws, vs, i, s => by
    show (match stepP i v s with | none => none | some s' => runP (i + 1) (ws ++ vs) s') = (match stepP i v s with | none => none | some s' => runP (i + 1) ws s').bind _
    cases stepP i v s with
    | none => rfl
    | some s' =>
      dsimp only
      rw [runP_app ws vs (i + 1) s', List.length_cons]
      congr 2
      omega
structure PInv (i : Nat) (s : PSt) : Prop where
  len : s.1.length ≤ i
  ne : 0 < i → s.1 ≠ []
  nn : ∀ x ∈ s.1, 0 ≤ x
  ps : ∀ x ∈ s.1.drop 1, 1 ≤ x
  fin : s.2 = none → s.1.sum ≤ 100000
  inf : ∀ b, s.2 = some b → 1 ≤ b ∧ b ≤ s.1.length ∧ (s.1.take b).sum ≤ 100000 ∧ (s.1.drop b).sum ≤ 20000
theorem pinv0 : PInv 0 ([], none) := ⟨Nat.le_refl _, fun h => absurd h (Nat.lt_irrefl _), fun _ h => absurd h List.not_mem_nil, fun _ h => absurd h List.not_mem_nil, fun _ => by show (0 : Int) ≤ 100000; decide, fun _ h => by cases h⟩
theorem PInv.step {i : Nat} {w : Str} {s t : PSt} (h : PInv i s) (e : stepP i w s = some t) : PInv (i + 1) t := by
  obtain ⟨ns, bar⟩ := s
  unfold stepP at e
  split at e
  · rename_i c
    cases e
    have hn := h.ne c.2.2
    have hl := List.length_pos_iff.mpr hn
    have hb : bar = none := c.2.1
    exact ⟨Nat.le_succ_of_le h.len, fun _ => hn, h.nn, h.ps, fun z => (by cases z), fun b hb' => by
      cases hb'
      show 1 ≤ ns.length ∧ ns.length ≤ ns.length ∧ (ns.take ns.length).sum ≤ 100000 ∧ (ns.drop ns.length).sum ≤ 20000
      rw [List.take_length, List.drop_length]
      exact ⟨hl, Nat.le_refl _, h.fin hb, by show (0 : Int) ≤ 20000; decide⟩⟩
  · cases hr : readN w with
    | none => rw [hr] at e; cases e
    | some n =>
      rw [hr] at e
      dsimp only at e
      split at e
      · cases e
      · rename_i c
        have n0 := readN_nn hr
        have hlen := h.len
        have base : (ns ++ [n]).length ≤ i + 1 ∧ ns ++ [n] ≠ [] ∧ (∀ x ∈ ns ++ [n], 0 ≤ x) ∧ ∀ x ∈ (ns ++ [n]).drop 1, 1 ≤ x := by
          refine ⟨by rw [List.length_append]; exact Nat.succ_le_succ hlen, by simp, fun x hx => ?_, fun x hx => ?_⟩
          · rcases List.mem_append.mp hx with z | z
            · exact h.nn x z
            · rw [List.mem_singleton.mp z]; exact n0
          · by_cases hi : 0 < i
            · have hn := List.length_pos_iff.mpr (h.ne hi)
              dsimp only at hn
              rw [List.drop_append_of_le_length (by omega)] at hx
              rcases List.mem_append.mp hx with z | z
              · exact h.ps x z
              · rw [List.mem_singleton.mp z]
                have : ¬ (n = 0) := fun z => c (.inl ⟨z, hi⟩)
                omega
            · have : ns = [] := List.eq_nil_of_length_eq_zero (by dsimp only at hlen; omega)
              subst this
              simp at hx
        obtain ⟨b1, b2, b3, b4⟩ := base
        cases hb : bar with
        | none =>
          rw [hb] at e
          dsimp only at e
          split at e
          · cases e
          · rename_i c2
            cases e
            exact ⟨b1, fun _ => b2, b3, b4, fun _ => by dsimp only; omega, fun _ z => by cases z⟩
        | some b =>
          rw [hb] at e
          dsimp only at e
          split at e
          · cases e
          · rename_i c2
            cases e
            obtain ⟨i1, i2, i3, i4⟩ := h.inf b hb
            dsimp only at i2 i3
            refine ⟨b1, fun _ => b2, b3, b4, fun z => (by cases z), fun b' hb' => ?_⟩
            cases hb'
            refine ⟨i1, by rw [List.length_append]; omega, ?_, by dsimp only; omega⟩
            dsimp only
            rw [List.take_append_of_le_length i2]
            exact i3
theorem runP_inv : ∀ (ws : List Str) (i : Nat) (s t : PSt), PInv i s → runP i ws s = some t → PInv (i + ws.length) t
  | [], i, s, t, h, e => by cases e; exact h
  | w :: ws, i, s, t, h, e => by
    have e' : (match stepP i w s with | none => none | some s' => runP (i + 1) ws s') = some t := e
    cases hs : stepP i w s with
    | none => rw [hs] at e'; cases e'
    | some s' =>
      rw [hs] at e'
      have := runP_inv ws (i + 1) s' t (h.step hs) e'
      rw [List.length_cons]
      have e2 : i + (ws.length + 1) = i + 1 + ws.length := by omega
      rw [e2]; exact this
theorem runP_at {ws : List Str} {t : PSt} (h : runP 0 ws ([], none) = some t) {i : Nat} {w : Str} (hi : ws[i]? = some w) : ∃ s s', runP 0 (ws.take i) ([], none) = some s ∧ stepP i w s = some s' ∧ runP 0 (ws.take (i + 1)) ([], none) = some s' := by
  have hl := lt_of_get hi
  have e0 : ws = ws.take (i + 1) ++ ws.drop (i + 1) := (List.take_append_drop _ _).symm
  rw [e0, runP_app] at h
  cases h1 : runP 0 (ws.take (i + 1)) ([], none) with
  | none => rw [h1] at h; cases h
  | some s' =>
    have h2 := h1
    rw [take_succ_of hi, runP_snoc] at h2
    cases h3 : runP 0 (ws.take i) ([], none) with
    | none => rw [h3] at h2; cases h2
    | some s =>
      rw [h3] at h2
      have e1 : 0 + (ws.take i).length = i := by rw [List.length_take]; omega
      rw [e1] at h2
      exact ⟨s, s', rfl, h2, rfl⟩
def barV : Option Nat → V
  | none => .non
  | some b => .int b
theorem rb_never : RB ⟨[], 0, 1, []⟩ ∧ ∀ t, RV.has ⟨[], 0, 1, []⟩ t = false := by
  have fc := finite_canon (e := []) (b := 0) List.Pairwise.nil (fun _ h => absurd h List.not_mem_nil) (.inl ⟨rfl, rfl⟩)
  exact ⟨⟨fc.1, by show (0 : Int) ≤ 200000; decide, by show (1 : Int) ≤ 20000; decide⟩, fun t => by rw [fc.2 t]; rfl⟩
section
variable {K : PySem.W.Frag} {C : Addr} {H : Hp} {Q : VK}
theorem x_sum {p : Addr} {l : List Int} (s : SqL K H p (zI l)) (h : Q (.int l.sum) H) : rSum K [.ref p] H Q := ⟨p, l, rfl, s, h⟩
theorem bar_non {b : Option Nat} : decide (barV b = .non) = b.isNone := by
  cases b with
  | none => rfl
  | some b => exact decide_eq_false fun h => by cases h
theorem split_word {z : Str} {i : Nat} {w : Str} (h : (Txt.split z " ")[i]? = some w) : w.length ≤ z.length + 1 := by
  have a := PyProof.Rows.split_weight z " " (by decide)
  have b : w.length ≤ ((Txt.split z " ").map (·.length)).sum := by
    have hm : w.length ∈ (Txt.split z " ").map (·.length) := List.mem_map.mpr ⟨w, List.mem_of_getElem? h, rfl⟩
    have key : ∀ {l : List Nat} {x : Nat}, x ∈ l → x ≤ l.sum := fun {l} => by
      induction l with
      | nil => intro x h; exact absurd h List.not_mem_nil
      | cons a l ih =>
        intro x h
        rw [List.sum_cons]
        rcases List.mem_cons.mp h with e | h
        · subst e; omega
        · have := ih h; omega
    exact key hm
  omega
end
section
variable {K : PySem.W.Frag} {C : Addr}
theorem rdRparse (T : TyF K C) (vs : List V) (H : Hp) (Q : VK) (E : XK) (h : spParse K C vs H Q E) : tRparse K C { nx := fun _ H' => Q .non H', rt := Q } (start ["cls", "text", "words", "numbers", "bar", "place", "word", "number"] vs) H := by
  obtain ⟨z, S, rfl, hz, hp, h⟩ := h
  unfold tRparse
  walk_at "rd"
  refine x_rEq rfl ?_
  walk_at "rd"
  refine x_iteD (fun c => ?_) (fun c => ?_)
  · have c : z = "never" := V.str.inj c
    have hS : S = fun _ => false := by
      unfold parseSet at hp
      rw [if_pos c] at hp
      exact (Option.some.inj hp).symm
    subst hS
    walk_at "rd"
    refine x_mkV rfl ?_
    walk_at "rd"
    intro p1 H1 e1 hp1 h1
    walk_at "rd"
    intro p2 H2 e2 hp2 h2
    walk_at "rd"
    refine mk_row (r := ⟨[], 0, 1, []⟩) (tOf (e2 _ _ h1)) (tOf h2) rb_never.1 fun x H3 e3 hx R => ?_
    exact h H3 x _ (e1.trans (e2.trans e3)) ((e1.trans e2).back hx) R rb_never.2
  · have c : ¬ z = "never" := fun e => c (by rw [e])
    walk_at "rd"
    refine ⟨rfl, ?_⟩
    walk_at "rd"
    refine ⟨z, " ", rfl, rfl, by decide, by have : (100000 + 2 : Nat) ≤ sizeLine := by decide
                                            omega, ?_⟩
    (intro W hW; generalize hX : upd _ W _ = H1; have e1 := ex_of hX hW; have h1 := at_of hX; clear hX)
    walk_at "rd"
    intro L H2 e2 hL h2
    walk_at "rd"
    unfold parseSet at hp
    rw [if_neg c] at hp
    cases hrun : runP 0 (Txt.split z " ") ([], none) with
    | none => rw [hrun] at hp; cases hp
    | some r =>
    rw [hrun] at hp
    have hlen : (Txt.split z " ").length ≤ 100002 := by have := PyProof.Rows.split_le z " "; omega
    have hne : 0 < (Txt.split z " ").length := by have := PyProof.Rows.split_pos z " "; omega
    generalize hws : Txt.split z " " = ws at *
    have hWL : W ≠ L := fun e => by subst e; rw [h1] at hL; cases hL
    have hLH : H L = none := e1.back hL
    refine x_for (x_enT ?_)
    walk_at "rd"
    refine ⟨_, _, rfl, .inl ⟨lOf (e2 _ _ h1), ?_⟩⟩
    refine for_enL (lOf h1) (fun i σ H' => ∃ ns bar u v w, runP 0 (ws.take i) ([], none) = some (ns, bar) ∧ σ = [some (.ref C), some (.str z), some (.ref W), some (.ref L), some (barV bar), u, v, w] ∧ Ex H1 H' ∧ H' L = some (.lst (zI ns)))
      ⟨[], none, _, _, _, rfl, rfl, e2, h2⟩ (fun i σ H' ⟨_, _, _, _, _, _, _, e, _⟩ => e) ?_ ?_
    · rintro i x σ H3 H4 hx ⟨ns, bar, u, v, w0, hrs, rfl, e3, hl3⟩ e4
      obtain ⟨w, hw, rfl⟩ : ∃ w, ws[i]? = some w ∧ x = .str w := by
        rw [List.getElem?_map] at hx
        cases hh : ws[i]? with
        | none => rw [hh] at hx; cases hx
        | some c => rw [hh] at hx; exact ⟨c, rfl, (Option.some.inj hx).symm⟩
      have hi := lt_of_get hw
      obtain ⟨s, s', q1, q2, q3⟩ := runP_at hrun hw
      rw [hrs] at q1
      cases q1
      have inv := runP_inv _ _ _ _ pinv0 hrs
      have e34 := e3.trans e4
      have hl4 := e4 _ _ hl3
      have nlen : ns.length ≤ 100002 := by have := inv.len; rw [List.length_take] at this; dsimp only at this; omega
      have ewd : (V.str w = V.str "|") ↔ w = "|" := ⟨V.str.inj, fun e => by rw [e]⟩
      walk_at "rd"
      refine x_rEq rfl ?_
      walk_at "rd"
      have num : ¬ (w = "|" ∧ bar = none ∧ 0 < i) → tSeq (tAsg (tDef (spReadNumber) E0 (tCons (tVar 6) tNil)) (gName 7))
          (tSeq (tIfS (tOr (tTest (tOp rIsNon (tVar 7) (tC .non))) (tOr (tAnd (tTest (tOp rEq (tVar 7) (tC (.int 0)))) (tTest (tOp (rI0 fun i j => V.bl (decide (j < i))) (tVar 5) (tC (.int 0))))) (tTest (tOp (rI0 fun i j => V.bl (decide (j < i))) (tVar 7) (tC (.int 100000)))))) tNever tNext)
          (tSeq (tDrop (tBM K "list" rAppend (tVar 3) (tCons (tVar 7) tNil)))
          (tIfS (tOr (tAnd (tTest (tOp rIsNon (tVar 4) (tC .non))) (tTest (tOp (rI0 fun i j => V.bl (decide (j < i))) (tCB (rSum K) (tCons (tVar 3) tNil)) (tC (.int 100000))))) (tAnd (tTest (tOp rNotNon (tVar 4) (tC .non))) (tTest (tOp (rI0 fun i j => V.bl (decide (j < i))) (tCB (rSum K) (tCons (L2.tSl (rSlL K) (tVar 3) (tPart (tVar 4)) tNoPart) tNil)) (tC (.int 20000)))))) tNever tNext)))
          { nx := fun σ H' => ∃ ns bar u v w, runP 0 (ws.take (i + 1)) ([], none) = some (ns, bar) ∧ σ = [some (.ref C), some (.str z), some (.ref W), some (.ref L), some (barV bar), u, v, w] ∧ Ex H1 H' ∧ H' L = some (.lst (zI ns)),
            ct := fun σ H' => ∃ ns bar u v w, runP 0 (ws.take (i + 1)) ([], none) = some (ns, bar) ∧ σ = [some (.ref C), some (.str z), some (.ref W), some (.ref L), some (barV bar), u, v, w] ∧ Ex H1 H' ∧ H' L = some (.lst (zI ns)),
            bk := tSeq (tIfS (tTest (tOp rIsNon (tVar 4) (tC .non))) (tRet (tDef (spRowOfTicks K C) E0 (tCons (tDef (spTicksOf K) E0 (tCons (tVar 3) tNil)) tNil))) tNext)
              (tSeq (tIfS (tTest (tOp rEq (tVar 4) (tCB (kLen K) (tCons (tVar 3) tNil)))) tNever tNext)
              (tRet (tDef (spRowOfLaps K C) E0 (tCons (tOp (rIxL K) (tVar 3) (tC (.int 0))) (tCons (L2.tSl (rSlL K) (tVar 3) (tPart (tC (.int 1))) (tPart (tVar 4))) (tCons (L2.tSl (rSlL K) (tVar 3) (tPart (tVar 4)) tNoPart) tNil)))))) { nx := fun x H' => Q V.non H', rt := Q },
            rt := Q } [some (.ref C), some (.str z), some (.ref W), some (.ref L), some (barV bar), some (.int (i : Nat)), some (.str w), w0] H4 := fun nb => by
        unfold stepP at q2
        rw [if_neg nb] at q2
        cases hr : readN w with
        | none => rw [hr] at q2; cases q2
        | some n =>
        rw [hr] at q2
        dsimp only at q2
        split at q2
        · cases q2
        rename_i cn
        have n0 := readN_nn hr
        walk_at "rd"
        refine ⟨w, rfl, sz_of (by have := split_word (z := z) (hws ▸ hw); omega), fun H5 e5 => ?_⟩
        have hv : readV w = .int n := by unfold readV; rw [hr]
        rw [hv]
        have hl5 := e5 _ _ hl4
        have e35 := e34.trans e5
        walk_at "rd"
        have d1 : decide (V.int n = V.non) = false := decide_eq_false fun z => by cases z
        rw [d1]
        refine iteF ?_
        walk_at "rd"
        refine x_rEq rfl ?_
        walk_at "rd"
        have app : (tSeq (tDrop (tBM K "list" rAppend (tVar 3) (tCons (tVar 7) tNil)))
            (tIfS (tOr (tAnd (tTest (tOp rIsNon (tVar 4) (tC .non))) (tTest (tOp (rI0 fun i j => V.bl (decide (j < i))) (tCB (rSum K) (tCons (tVar 3) tNil)) (tC (.int 100000))))) (tAnd (tTest (tOp rNotNon (tVar 4) (tC .non))) (tTest (tOp (rI0 fun i j => V.bl (decide (j < i))) (tCB (rSum K) (tCons (L2.tSl (rSlL K) (tVar 3) (tPart (tVar 4)) tNoPart) tNil)) (tC (.int 20000)))))) tNever tNext))
            { nx := fun σ H' => ∃ ns bar u v w, runP 0 (ws.take (i + 1)) ([], none) = some (ns, bar) ∧ σ = [some (.ref C), some (.str z), some (.ref W), some (.ref L), some (barV bar), u, v, w] ∧ Ex H1 H' ∧ H' L = some (.lst (zI ns)),
              ct := fun σ H' => ∃ ns bar u v w, runP 0 (ws.take (i + 1)) ([], none) = some (ns, bar) ∧ σ = [some (.ref C), some (.str z), some (.ref W), some (.ref L), some (barV bar), u, v, w] ∧ Ex H1 H' ∧ H' L = some (.lst (zI ns)),
              bk := tSeq (tIfS (tTest (tOp rIsNon (tVar 4) (tC .non))) (tRet (tDef (spRowOfTicks K C) E0 (tCons (tDef (spTicksOf K) E0 (tCons (tVar 3) tNil)) tNil))) tNext)
                (tSeq (tIfS (tTest (tOp rEq (tVar 4) (tCB (kLen K) (tCons (tVar 3) tNil)))) tNever tNext)
                (tRet (tDef (spRowOfLaps K C) E0 (tCons (tOp (rIxL K) (tVar 3) (tC (.int 0))) (tCons (L2.tSl (rSlL K) (tVar 3) (tPart (tC (.int 1))) (tPart (tVar 4))) (tCons (L2.tSl (rSlL K) (tVar 3) (tPart (tVar 4)) tNoPart) tNil)))))) { nx := fun x H' => Q V.non H', rt := Q },
              rt := Q } [some (.ref C), some (.str z), some (.ref W), some (.ref L), some (barV bar), some (.int (i : Nat)), some (.str w), some (.int n)] H5 := by
          walk_at "rd"
          refine x_ty hl5 ?_
          walk_at "rd"
          refine x_appR hl5 (by omega) ?_
          have e36 : Ex H1 (upd H5 L (.lst (zI (ns ++ [n])))) := e35.mut hL
          have hl6 : (upd H5 L (.lst (zI (ns ++ [n])))) L = some (.lst (zI (ns ++ [n]))) := upd_same
          generalize upd H5 L (.lst (zI (ns ++ [n]))) = H6 at e36 hl6
          cases bar with
          | none =>
            dsimp only at q2
            split at q2
            · cases q2
            rename_i cs
            cases q2
            walk_at "rd"
            refine iteT ?_
            walk_at "rd"
            refine x_sum (lOf hl6) ?_
            walk_at "rd"
            rw [decide_eq_false cs]
            refine iteF ?_
            walk_at "rd"
            refine iteF ?_
            walk_at "rd"
            refine iteF ?_
            walk_at "rd"
            exact ⟨_, _, _, _, _, q3, rfl, e36, hl6⟩
          | some b =>
            dsimp only at q2
            split at q2
            · cases q2
            rename_i cs
            cases q2
            walk_at "rd"
            have d2 : decide (V.int (b : Nat) = V.non) = false := decide_eq_false fun z => by cases z
            show if decide (V.int (b : Nat) = V.non) = true then _ else _
            rw [d2]
            refine iteF ?_
            walk_at "rd"
            refine iteF ?_
            walk_at "rd"
            show if (!decide (V.int (b : Nat) = V.non)) = true then _ else _
            rw [d2]
            refine iteT ?_
            walk_at "rd"
            show ∃ k, V.int (b : Nat) = .int k ∧ _
            walk_at "rd"
            refine x_slL (lOf hl6) (cut_lo (by omega)) fun q H7 e7 hq h7 => ?_
            walk_at "rd"
            refine x_sum (lOf h7) ?_
            walk_at "rd"
            rw [Int.toNat_natCast, decide_eq_false cs]
            refine iteF ?_
            walk_at "rd"
            exact ⟨_, some b, _, _, _, q3, rfl, e36.trans e7, e7 _ _ hl6⟩
        by_cases cz : n = 0
        · subst cz
          refine iteT ?_
          walk_at "rd"
          have : ¬ ((0 : Int) < (i : Nat)) := fun z => cn (.inl ⟨rfl, by omega⟩)
          rw [decide_eq_false this]
          refine iteF ?_
          walk_at "rd"
          refine iteF ?_
          exact app
        · have d3 : decide (V.int n = V.int 0) = false := decide_eq_false fun z => cz (V.int.inj z)
          rw [d3]
          refine iteF ?_
          refine iteF ?_
          walk_at "rd"
          have : ¬ (100000 < n) := fun z => cn (.inr z)
          rw [decide_eq_false this]
          refine iteF ?_
          exact app
      refine x_iteD (fun cw => ?_) (fun cw => ?_)
      · have cw := ewd.mp cw
        walk_at "rd"
        rw [bar_non]
        cases bar with
        | some b =>
          refine iteF ?_
          refine iteF ?_
          exact num fun z => by cases z.2.1
        | none =>
          refine iteT ?_
          walk_at "rd"
          by_cases ci : (0 : Int) < (i : Nat)
          · rw [decide_eq_true ci]
            refine iteT ?_
            walk_at "rd"
            refine x_lenL (lOf hl4) ?_
            walk_at "rd"
            unfold stepP at q2
            rw [if_pos ⟨cw, rfl, by omega⟩] at q2
            cases q2
            exact ⟨_, _, _, _, _, q3, rfl, e34, hl4⟩
          · rw [decide_eq_false ci]
            refine iteF ?_
            exact num fun z => ci (by have := z.2.2; omega)
      · refine iteF ?_
        exact num fun z => cw (ewd.mpr z.1)
    · rintro σ H3 ⟨ns, bar, u, v, w, hrs, rfl, e3, hl3⟩
      rw [List.length_map, List.take_length, hrun] at hrs
      cases hrs
      have inv := runP_inv _ _ _ _ pinv0 hrun
      have hns := inv.ne (by omega)
      have e13 := e1.trans e3
      have nlen : ns.length ≤ 100002 := by have := inv.len; dsimp only at this; omega
      obtain ⟨a, l, rfl⟩ : ∃ a l, ns = a :: l := by
        cases ns with
        | nil => exact absurd rfl hns
        | cons a l => exact ⟨a, l, rfl⟩
      have ha : 0 ≤ a := inv.nn a List.mem_cons_self
      have hl : ∀ x ∈ l, 1 ≤ x := inv.ps
      walk_at "rd"
      rw [bar_non]
      cases bar with
      | none =>
        dsimp only at hp
        cases hp
        have hs := inv.fin rfl
        dsimp only at hs
        rw [List.sum_cons] at hs
        refine iteT ?_
        walk_at "rd"
        refine ⟨L, _, rfl, lOf hl3, by simp, by omega, fun H4 q e4 hq hq4 => ?_⟩
        walk_at "rd"
        refine ⟨q, ticksOf (a :: l), rfl, lOf hq4, tks_ne, tks_pair hl, fun x hx => by have := tks_range hl x hx; omega, fun H5 p r e5 hp5 R hr => ?_⟩
        exact h H5 p r (e13.trans (e4.trans e5)) ((e13.trans e4).back hp5) R hr
      | some b =>
        obtain ⟨i1, i2, i3, i4⟩ := inv.inf b rfl
        dsimp only at hp i2 i3 i4
        split at hp
        · cases hp
        rename_i cb
        cases hp
        refine iteF ?_
        walk_at "rd"
        refine x_lenL (lOf hl3) ?_
        show rEq (V.int (b : Nat)) _ _ _
        refine x_rEq rfl ?_
        walk_at "rd"
        have d4 : decide (V.int (b : Nat) = V.int ((a :: l).length : Nat)) = false := decide_eq_false fun z => cb (by have := V.int.inj z; omega)
        rw [d4]
        refine iteF ?_
        walk_at "rd"
        refine x_ixL (lOf hl3) (atI_zI (by omega) (by simp)) ?_
        walk_at "rd"
        show ∃ k, V.int (b : Nat) = .int k ∧ _
        walk_at "rd"
        refine x_slL (lOf hl3) (cut_lh (by omega) (by omega)) fun q4 H4 e4 hq4 h4 => ?_
        walk_at "rd"
        show ∃ k, V.int (b : Nat) = .int k ∧ _
        walk_at "rd"
        refine x_slL (lOf (e4 _ _ hl3)) (cut_lo (by omega)) fun q5 H5 e5 hq5 h5 => ?_
        walk_at "rd"
        have eb : ((b : Nat) : Int).toNat = b := by omega
        have eb1 : (1 : Int).toNat = 1 := rfl
        have tk : (a :: l).take b = a :: ((a :: l).drop 1).take (b - 1) := by
          obtain ⟨b', rfl⟩ : ∃ b', b = b' + 1 := ⟨b - 1, by omega⟩
          rfl
        rw [tk, List.sum_cons] at i3
        rw [eb, eb1] at h4
        rw [eb] at h5
        have hd1 : ∀ x ∈ ((a :: l).drop 1).take (b - 1), 1 ≤ x := fun x hx => hl x (List.mem_of_mem_take hx)
        have hd2 : ∀ x ∈ (a :: l).drop b, 1 ≤ x := fun x hx => by
          obtain ⟨b', rfl⟩ : ∃ b', b = b' + 1 := ⟨b - 1, by omega⟩
          exact hl x (List.mem_of_mem_drop (i := b') hx)
        refine ⟨_, q4, q5, _, _, rfl, .inl (lOf (e5 _ _ h4)), .inl (lOf h5), ha, hd1, hd2, fun z => ?_, by show a + _ ≤ 200000; omega, i4, fun H6 p r e6 hp6 R hr => ?_⟩
        · have : ((a :: l).drop b).length = 0 := by rw [z]; rfl
          rw [List.length_drop] at this
          omega
        · exact h H6 p r (e13.trans (e4.trans (e5.trans e6))) ((e13.trans (e4.trans e5)).back hp6) R hr
end
end TkL


namespace TkL
open PySem PySem.Spec PySem.Calls PyProof.Rows L2 Tk
def numS (i : Int) : Str := Str.ofString (toString i)
theorem numS_S {i : Int} (h : 0 ≤ i) : numS i = SX.S (TL.numL i.toNat) := by
  obtain ⟨n, rfl⟩ : ∃ n : Nat, i = n := ⟨i.toNat, by omega⟩
  exact SX.num_S n
theorem numS_len {i : Int} (h0 : 0 ≤ i) (h1 : i < 1000000) : 1 ≤ (numS i).length ∧ (numS i).length ≤ 6 := by
  rw [numS_S h0, SX.S_len]
  exact ⟨List.length_pos_iff.mpr (TL.numL_ne _), TL.numL_len (k := 6) (by omega) (by omega)⟩
theorem numL_head : ∀ (n : Nat), 1 ≤ n → (TL.numL n)[0]? ≠ some 48 := fun n => by
  induction n using Nat.strongRecOn with
  | ind n ih =>
    intro h1 h
    by_cases c : n < 10
    · rw [TL.numL_lt c] at h
      have := Option.some.inj h
      omega
    · rw [TL.numL_step (by omega), List.getElem?_append_left (List.length_pos_iff.mpr (TL.numL_ne _))] at h
      exact ih (n / 10) (by omega) (by omega) h
theorem readN_num {i : Int} (h0 : 0 ≤ i) (h1 : i < 1000000) : readN (numS i) = some i := by
  obtain ⟨n, rfl⟩ : ∃ n : Nat, i = n := ⟨i.toNat, by omega⟩
  have hl := numS_len h0 h1
  have e : (numS (n : Nat)).cps.toList = TL.numL n := TL.tl_num n
  have c1 : (numS (n : Nat)).cps.toList.all rdig = true := by
    rw [e, List.all_eq_true]
    intro c hc
    exact rdig_iff.mpr (TL.numL_digits n c hc)
  have c2 : ¬ (1 < (numS (n : Nat)).length ∧ (numS (n : Nat)).cps.toList[0]? = some 48) := by
    rintro ⟨a, b⟩
    rw [e] at b
    by_cases c : n = 0
    · subst c
      rw [numS_S h0, SX.S_len] at a
      rw [show ((0 : Nat) : Int).toNat = 0 from rfl, TL.numL_lt (by omega)] at a
      simp at a
    · exact numL_head n (by omega) b
  unfold readN
  rw [if_pos ⟨hl.1, hl.2, c1, c2⟩]
  exact TL.int_num (by have := TL.numL_len (n := n) (k := 6) (by omega) (by omega); omega)
theorem numS_ne_bar {i : Int} (h0 : 0 ≤ i) : numS i ≠ "|" := fun h => by
  have e : (numS i).cps.toList = TL.numL i.toNat := by rw [numS_S h0]
  have e2 : ("|" : Str).cps.toList = [124] := by decide +kernel
  rw [h, e2] at e
  exact TL.numL_free (n := i.toNat) (s := 124) (by omega) (by rw [← e]; simp)
theorem stepP_num {i : Nat} {n : Int} {ns : List Int} (h0 : 0 ≤ n) (hi : 0 < i → 1 ≤ n) (hs : (ns ++ [n]).sum ≤ 100000) (hn : n ≤ 100000) : stepP i (numS n) (ns, none) = some (ns ++ [n], none) := by
  unfold stepP
  rw [if_neg fun z => numS_ne_bar h0 z.1, readN_num h0 (by omega)]
  dsimp only
  rw [if_neg (by rintro (⟨a, b⟩ | a) <;> omega), if_neg (by omega)]
theorem stepP_num2 {i : Nat} {n : Int} {ns : List Int} {b : Nat} (h0 : 1 ≤ n) (hs : ((ns ++ [n]).drop b).sum ≤ 20000) (hn : n ≤ 100000) : stepP i (numS n) (ns, some b) = some (ns ++ [n], some b) := by
  unfold stepP
  rw [if_neg fun z => numS_ne_bar (by omega) z.1, readN_num (by omega) (by omega)]
  dsimp only
  rw [if_neg (by rintro (⟨a, b⟩ | a) <;> omega), if_neg (by omega)]
theorem sum_app (l m : List Int) : (l ++ m).sum = l.sum + m.sum := by
  induction l with
  | nil => simp
  | cons a l ih => rw [List.cons_append, List.sum_cons, List.sum_cons, ih]; omega
theorem sum_nn {l : List Int} (h : ∀ x ∈ l, 1 ≤ x) : 0 ≤ l.sum := by have := sum_ge h; omega
theorem runP_nums : ∀ (l : List Int) (i : Nat) (ns : List Int), 0 < i → (∀ x ∈ l, 1 ≤ x) → (∀ x ∈ ns, 0 ≤ x) → ns.sum + l.sum ≤ 100000 → 0 ≤ ns.sum → runP i (l.map numS) (ns, none) = some (ns ++ l, none)
  | [], i, ns, _, _, _, _, _ => by show some _ = _; rw [List.append_nil]
  | a :: l, i, ns, hi, hl, hn, hs, h0 => by
    have ha := hl a List.mem_cons_self
    have hl' : ∀ x ∈ l, 1 ≤ x := fun x hx => hl x (List.mem_cons_of_mem _ hx)
    have hs0 := sum_nn hl'
    rw [List.sum_cons] at hs
    show (match stepP i (numS a) (ns, none) with | none => none | some s' => runP (i + 1) (l.map numS) s') = _
    have e1 : (ns ++ [a]).sum = ns.sum + a := by rw [sum_app]; simp
    rw [stepP_num (by omega) (fun _ => ha) (by omega) (by omega)]
    dsimp only
    rw [runP_nums l (i + 1) (ns ++ [a]) (by omega) hl' (fun x hx => by
      rcases List.mem_append.mp hx with z | z
      · exact hn x z
      · rw [List.mem_singleton.mp z]; omega) (by omega) (by omega), List.append_assoc]
    rfl
theorem runP_nums2 : ∀ (l : List Int) (i : Nat) (ns : List Int) (b : Nat), b ≤ ns.length → (∀ x ∈ l, 1 ≤ x) → (ns.drop b).sum + l.sum ≤ 20000 → 0 ≤ (ns.drop b).sum → runP i (l.map numS) (ns, some b) = some (ns ++ l, some b)
  | [], i, ns, b, _, _, _, _ => by show some _ = _; rw [List.append_nil]
  | a :: l, i, ns, b, hb, hl, hs, h0 => by
    have ha := hl a List.mem_cons_self
    have hl' : ∀ x ∈ l, 1 ≤ x := fun x hx => hl x (List.mem_cons_of_mem _ hx)
    have hs0 := sum_nn hl'
    rw [List.sum_cons] at hs
    show (match stepP i (numS a) (ns, some b) with | none => none | some s' => runP (i + 1) (l.map numS) s') = _
    have e1 : ((ns ++ [a]).drop b).sum = (ns.drop b).sum + a := by rw [List.drop_append_of_le_length hb, sum_app]; simp
    rw [stepP_num2 (by omega) (by omega) (by omega)]
    dsimp only
    rw [runP_nums2 l (i + 1) (ns ++ [a]) b (by rw [List.length_append]; omega) hl' (by omega) (by omega), List.append_assoc]
    rfl
def planWords (s : Int) (fs ls : List Int) : List Str := (s :: fs).map numS ++ (("|" : Str) :: ls.map numS)
theorem run_plan {s : Int} {fs ls : List Int} (h0 : 0 ≤ s) (hf : ∀ x ∈ fs, 1 ≤ x) (hl : ∀ x ∈ ls, 1 ≤ x) (h1 : s + fs.sum ≤ 100000) (h2 : ls.sum ≤ 20000) :
    runP 0 (planWords s fs ls) ([], none) = some ((s :: fs) ++ ls, some (fs.length + 1)) := by
  have g1 := sum_nn hf
  have g2 := sum_nn hl
  unfold planWords
  rw [runP_app]
  have a1 : runP 0 ((s :: fs).map numS) ([], none) = some (s :: fs, none) := by
    show (match stepP 0 (numS s) ([], none) with | none => none | some s' => runP 1 (fs.map numS) s') = _
    rw [stepP_num h0 (fun z => absurd z (Nat.lt_irrefl _)) (by simp; omega) (by omega)]
    dsimp only
    rw [runP_nums fs 1 ([] ++ [s]) (by omega) hf (fun x hx => by simp at hx; omega) (by simp; omega) (by simp; omega)]
    rfl
  rw [a1]
  show runP (0 + ((s :: fs).map numS).length) (("|" : Str) :: ls.map numS) (s :: fs, none) = _
  show (match stepP (0 + ((s :: fs).map numS).length) "|" (s :: fs, none) with | none => none | some s' => runP (0 + ((s :: fs).map numS).length + 1) (ls.map numS) s') = _
  have a2 : stepP (0 + ((s :: fs).map numS).length) "|" (s :: fs, none) = some (s :: fs, some (fs.length + 1)) := by
    unfold stepP
    rw [if_pos ⟨rfl, rfl, by simp⟩]
    rfl
  rw [a2]
  dsimp only
  have hd : (s :: fs).drop (fs.length + 1) = [] := List.drop_eq_nil_of_le (by simp)
  exact runP_nums2 ls _ (s :: fs) (fs.length + 1) (by simp) hl (by rw [hd]; simp; omega) (by rw [hd]; simp)
theorem sp_S : (" " : Str) = SX.S [32] := by decide +kernel
theorem bar_S : ("|" : Str) = SX.S [124] := by decide +kernel
theorem split_join {ws : List (List Nat)} (hne : ws ≠ []) (h : ∀ p ∈ ws, 32 ∉ p) : Txt.split (Txt.join " " (ws.map SX.S)) " " = ws.map SX.S := by
  rw [sp_S, SX.join_S, SX.split_S (by simp) (by decide), SX.spl_join hne h]
def numLs (l : List Int) : List (List Nat) := l.map fun i => TL.numL i.toNat
theorem map_numS {l : List Int} (h : ∀ x ∈ l, 0 ≤ x) : l.map numS = (numLs l).map SX.S := by
  unfold numLs
  rw [List.map_map]
  apply List.map_congr_left
  intro x hx
  exact numS_S (h x hx)
theorem words_S {s : Int} {fs ls : List Int} (h0 : 0 ≤ s) (hf : ∀ x ∈ fs, 1 ≤ x) (hl : ∀ x ∈ ls, 1 ≤ x) : planWords s fs ls = (numLs (s :: fs) ++ ([124] :: numLs ls)).map SX.S := by
  unfold planWords
  rw [map_numS (l := s :: fs) (fun x hx => by
    rcases List.mem_cons.mp hx with e | e
    · omega
    · have := hf x e; omega), map_numS (l := ls) (fun x hx => by have := hl x hx; omega), List.map_append, bar_S]
  rfl
theorem free_nums {l : List Int} : ∀ p ∈ numLs l, 32 ∉ p := fun p hp => by
  obtain ⟨i, _, rfl⟩ := List.mem_map.mp hp
  exact TL.numL_free (by omega)
theorem split_plan {s : Int} {fs ls : List Int} (h0 : 0 ≤ s) (hf : ∀ x ∈ fs, 1 ≤ x) (hl : ∀ x ∈ ls, 1 ≤ x) : Txt.split (Txt.join " " (planWords s fs ls)) " " = planWords s fs ls := by
  rw [words_S h0 hf hl]
  refine split_join (by simp) fun p hp => ?_
  rcases List.mem_append.mp hp with z | z
  · exact free_nums p z
  · rcases List.mem_cons.mp z with e | e
    · subst e; decide
    · exact free_nums p e
theorem never_split : Txt.split "never" " " = [("never" : Str)] := by
  have e : ("never" : Str) = SX.S [110, 101, 118, 101, 114] := by decide +kernel
  have e2 := split_join (ws := [[110, 101, 118, 101, 114]]) (by simp) (fun p hp => by rw [List.mem_singleton.mp hp]; decide)
  have e3 : Txt.join " " ([[110, 101, 118, 101, 114]].map SX.S) = SX.S [110, 101, 118, 101, 114] := by rw [sp_S, SX.join_S]; rfl
  rw [e3] at e2
  rw [e, e2]
  rfl
theorem parse_plan {s : Int} {fs ls : List Int} (h0 : 0 ≤ s) (hf : ∀ x ∈ fs, 1 ≤ x) (hl : ∀ x ∈ ls, 1 ≤ x) (hn : ls ≠ []) (h1 : s + fs.sum ≤ 100000) (h2 : ls.sum ≤ 20000) : parseSet (Txt.join " " (planWords s fs ls)) = some (planHas s fs ls) := by
  have hnl := List.length_pos_iff.mpr hn
  unfold parseSet
  rw [if_neg, split_plan h0 hf hl, run_plan h0 hf hl h1 h2]
  · dsimp only
    rw [if_neg (by simp; omega)]
    congr 2
    · simp [List.take_append]
    · simp [List.drop_append]
  · intro z
    have a := split_plan h0 hf hl
    rw [z, never_split] at a
    have b : (planWords s fs ls).length = 1 := by rw [← a]; rfl
    unfold planWords at b
    rw [List.length_append, List.length_cons, List.length_map, List.length_map] at b
    omega
theorem joinL_len : ∀ (ws : List (List Nat)) (k : Nat), (∀ p ∈ ws, p.length ≤ k) → (TL.joinL [32] ws).length ≤ ws.length * (k + 1)
  | [], _, _ => Nat.zero_le _
  | [p], k, h => by
    have := h p (by simp)
    show p.length ≤ 1 * (k + 1)
    omega
  | p :: q :: r, k, h => by
    have a := h p (by simp)
    have b := joinL_len (q :: r) k (fun x hx => h x (List.mem_cons_of_mem _ hx))
    show (p ++ ([32] ++ TL.joinL [32] (q :: r))).length ≤ ((q :: r).length + 1) * (k + 1)
    rw [List.length_append, List.length_append, Nat.add_mul]
    simp only [List.length_singleton]
    omega
theorem wsum_le : ∀ (ws : List Str) (k : Nat), (∀ p ∈ ws, p.length ≤ k) → (ws.map (·.length)).sum ≤ ws.length * k
  | [], _, _ => by simp
  | p :: r, k, h => by
    have a := h p (by simp)
    have b := wsum_le r k (fun x hx => h x (List.mem_cons_of_mem _ hx))
    rw [List.map_cons, List.sum_cons, List.length_cons, Nat.add_mul]
    omega
theorem planWords_len {s : Int} {fs ls : List Int} : (planWords s fs ls).length = fs.length + ls.length + 2 := by
  unfold planWords
  simp
  omega
theorem word_len {s : Int} {fs ls : List Int} (h0 : 0 ≤ s) (h1 : s < 1000000) (hf : ∀ x ∈ fs, 1 ≤ x ∧ x < 1000000) (hl : ∀ x ∈ ls, 1 ≤ x ∧ x < 1000000) : ∀ p ∈ planWords s fs ls, p.length ≤ 6 := by
  intro p hp
  unfold planWords at hp
  have num : ∀ i : Int, 0 ≤ i → i < 1000000 → (numS i).length ≤ 6 := fun i a b => (numS_len a b).2
  rcases List.mem_append.mp hp with z | z
  · obtain ⟨i, hi, rfl⟩ := List.mem_map.mp z
    rcases List.mem_cons.mp hi with e | e
    · subst e; exact num _ h0 h1
    · have := hf i e; exact num _ (by omega) (by omega)
  · rcases List.mem_cons.mp z with z | z
    · rw [z]; decide
    · obtain ⟨i, hi, rfl⟩ := List.mem_map.mp z
      have := hl i hi; exact num _ (by omega) (by omega)
theorem join_len {ws : List Str} {k : Nat} (h : ∀ p ∈ ws, p.length ≤ k) : (Txt.join " " ws).length ≤ ws.length * (k + 1) := by
  have e : ws = (ws.map fun w => w.cps.toList).map SX.S := by
    rw [List.map_map]
    conv => lhs; rw [← List.map_id ws]
    apply List.map_congr_left
    intro w _
    exact (SX.S_tl w).symm
  rw [e, sp_S, SX.join_S, SX.S_len, List.length_map]
  refine joinL_len _ k fun p hp => ?_
  obtain ⟨w, hw, rfl⟩ := List.mem_map.mp hp
  rw [Array.length_toList]
  exact h w hw
end TkL


namespace TkL
open PySem PySem.Spec PySem.Calls PyProof.Rows L2 Tk
section
variable {K : PySem.W.Frag} {C : Addr} {H H' : Hp} {Q : VK} {d : Addr}
theorem Kp.refl : Kp d H H := fun _ _ _ h => h
theorem Kp.trans {H1 : Hp} (a : Kp d H H1) (b : Kp d H1 H') : Kp d H H' := fun x o hx h => b x o hx (a x o hx h)
theorem Ex.kp (e : Ex H H') : Kp d H H' := fun x o _ h => e x o h
theorem DAt.ex (D : DAt d H) (e : Ex H H') : DAt d H' := by obtain ⟨ds, h, w⟩ := D; exact ⟨ds, e _ _ h, w⟩
theorem kp_ne {p : Addr} {o : HO} (D : DAt d H) (h : H p = some o) (ho : ∀ xs, o ≠ .lst xs) : p ≠ d := fun e => by
  obtain ⟨ds, hd, _⟩ := D
  subst e
  rw [hd] at h
  cases h
  exact ho _ rfl
theorem SqT.kp {p : Addr} {xs : List V} (s : SqT K H p xs) (D : DAt d H) (k : Kp d H H') : SqT K H' p xs := by
  rcases s with (s | ⟨o, s⟩) | s
  · exact .inl (.inl (k _ _ (kp_ne D s fun _ z => by cases z) s))
  · exact .inl (.inr ⟨o, k _ _ (kp_ne D s fun _ z => by cases z) s⟩)
  · exact .inr s
theorem RowAt.kp {a : Addr} {r : RV} (R : RowAt K C H a r) (D : DAt d H) (k : Kp d H H') : RowAt K C H' a r := by
  obtain ⟨dx, p1, p2, p3, p4, I⟩ := R
  exact ⟨dx, p1, p2, p3, p4, k _ _ (kp_ne D I.ob fun _ z => by cases z) I.ob, SqT.kp I.e D k, SqT.kp I.o D k, k _ _ (kp_ne D I.m fun _ z => by cases z) I.m, SqT.kp I.p D k, I.rb⟩
theorem kp_none {p : Addr} (D : DAt d H) (k : Kp d H H') (h : H' p = none) (hd : p ≠ d) : H p = none := by
  cases h1 : H p with
  | none => rfl
  | some o => rw [k p o hd h1] at h; cases h
theorem kp_set {o : HO} : Kp d H (upd H d o) := fun x u hx h => by rw [upd_ne hx]; exact h
end
theorem ixN_z {l : List Int} {i : Int} (h0 : 0 ≤ i) (h1 : i < l.length) : ixN (zI l).length i = some i.toNat := by
  unfold ixN
  rw [zI_len, if_pos h0, if_pos h1]
theorem pow18 : ((10 : Int) ^ (18 : Int).toNat) = 1000000000000000000 := by decide
theorem pow6 : ((10 : Int) ^ (6 : Int).toNat) = 1000000 := by decide
section
variable {K : PySem.W.Frag} {C : Addr}
theorem rdLrandom (T : TyF K C) (vs : List V) (H : Hp) (Q : VK) (E : XK) (h : spRandom K vs H Q E) : tLrandom K { nx := fun _ H' => Q .non H', rt := Q } (start ["_law_script", "_law_salt", "_law_seed", "_law_cell"] vs) H := by
  obtain ⟨p, ns, salt, rfl, s, hz, h0, h1, h⟩ := h
  unfold tLrandom
  walk_at "rd"
  refine x_for (x_ilist ?_)
  walk_at "rd"
  refine ⟨⟨_, s⟩, ?_⟩
  refine for_wk (H0 := H) (Wk.list s) (fun i σ H' => ∃ sd u, σ = [some (.ref p), some (.int salt), some (.int sd), u] ∧ H' = H ∧ 0 ≤ sd ∧ sd < 2147483647) ⟨salt, _, rfl, rfl, h0, by omega⟩ (fun i σ H' ⟨_, _, _, e, _⟩ => by rw [e]; exact Ex.refl _) ?_ ?_
  · rintro i x σ H1 hx ⟨sd, u, rfl, rfl, s0, s1⟩
    obtain ⟨n, hn, rfl⟩ := zI_get hx
    walk_at "rd"
    refine x_rI (.inl (by omega)) ?_
    walk_at "rd"
    refine ⟨n, rfl, ?_⟩
    walk_at "rd"
    refine x_rI (by decide) ?_
    walk_at "rd"
    exact ⟨_, _, rfl, rfl, Int.emod_nonneg _ (by decide), Int.emod_lt_of_pos _ (by decide)⟩
  · rintro σ H1 ⟨sd, u, rfl, rfl, s0, s1⟩
    walk_at "rd"
    refine x_lst ?_
    walk_at "rd"
    refine ⟨by show 2 ≤ sizeLine; decide, ?_⟩
    (intro A hA; generalize hX : upd _ A _ = H1; have e1 := ex_of hX hA; have hA1 := at_of hX; clear hX)
    walk_at "rd"
    refine x_lc (x_ilist ?_)
    walk_at "rd"
    have s1' := e1.sqL s
    refine ⟨⟨_, s1'⟩, ?_⟩
    refine lcfI (Wk.list s1') (fun n => decide (1000000000000000000 ≤ n)) V.int (by omega) (fun n H' Qb _ e q => ?_) (fun n H' Qv _ _ e q => ?_) (fun D H2 e2 hD hl => ?_)
    · walk_at "rd"
      refine x_rI ⟨by decide, by decide, by decide⟩ ?_
      walk_at "rd"
      rw [pow18]
      exact q
    · walk_at "rd"; exact q
    · refine x_cat (l := [sd, 0]) (m := ns.filter fun n => decide (1000000000000000000 ≤ n)) (e2 _ _ hA1) hl (by have := List.length_filter_le (fun n => decide (1000000000000000000 ≤ n)) ns; simp; omega) fun r H3 e3 hr h3 => ?_
      refine h H3 r (e1.trans (e2.trans e3)) ((e1.trans e2).back hr) ⟨_, h3, by simp, fun x hx => ?_, by simpa using s1⟩
      rcases List.mem_append.mp hx with z | z
      · simp at z
        rcases z with z | z
        · subst z; exact s0
        · subst z; exact Int.le_refl _
      · have := (List.mem_filter.mp z).2
        have := of_decide_eq_true this
        omega
theorem rdLbelow (T : TyF K C) (vs : List V) (H : Hp) (Q : VK) (E : XK) (h : spBelow vs H Q E) : tLbelow K { nx := fun _ H' => Q .non H', rt := Q } (start ["_law_d", "_law_limit", "_law_result"] vs) H := by
  obtain ⟨d, n, rfl, ⟨ds, hd, wf⟩, n0, n1, h⟩ := h
  obtain ⟨a, b, l, rfl⟩ : ∃ a b l, ds = a :: b :: l := by
    have := wf.l2
    match ds, this with
    | a :: b :: l, _ => exact ⟨a, b, l, rfl⟩
  have ha := wf.nn a (by simp)
  have hb := wf.nn b (by simp)
  have hl : ∀ x ∈ l, 0 ≤ x := fun x hx => wf.nn x (by simp [hx])
  have hsm : a < 2147483647 := wf.sm
  unfold tLbelow
  walk_at "rd"
  have rest : ∀ (b : Int) (l : List Int) (H1 : Hp), 0 ≤ b → (∀ x ∈ l, 0 ≤ x) → Kp d H H1 → H1 d = some (.lst (zI (a :: b :: l))) →
      tSeq (tIfS (tTest (tOp (rI0 fun i j => V.bl (decide (j < i))) (tOp (rIxL K) (tVar 0) (tC (.int 1))) (tC (.int 0)))) (tSeq (tAsg (tOp (rI (fun _ j => 0 < j) fun i j => V.int (i % j)) (tOp (rIxL K) (tVar 0) (tC (.int 1))) (tVar 1)) (gName 2))
    (tSeq (tAsg (tOp (rI CDiv fun i j => V.int (i / j)) (tOp (rIxL K) (tVar 0) (tC (.int 1))) (tVar 1)) (gSub (tVar 0) (tC (.int 1)) rSetL))
    (tRet (tVar 2)))) tNext)
    (tSeq (tAsg (tOp (rI (fun _ j => 0 < j) fun i j => V.int (i % j)) (tOp (rI0 fun i j => V.int (i + j)) (tOp (rI CMul fun i j => V.int (i * j)) (tOp (rIxL K) (tVar 0) (tC (.int 0))) (tC (.int 48271))) (tC (.int 11))) (tC (.int 2147483647))) (gSub (tVar 0) (tC (.int 0)) rSetL))
    (tRet (tOp (rI (fun _ j => 0 < j) fun i j => V.int (i % j)) (tOp (rI CDiv fun i j => V.int (i / j)) (tOp (rIxL K) (tVar 0) (tC (.int 0))) (tC (.int 64))) (tVar 1)))) { nx := fun _ H' => Q .non H', rt := Q } [some (.ref d), some (.int n), none] H1 := fun b l H1 hb hl k h1 => by
    walk_at "rd"
    refine x_ixL (v := .int b) (lOf h1) (atI_zI (by omega) (by simp only [List.length_cons]; omega)) ?_
    walk_at "rd"
    refine x_iteD (fun c => ?_) (fun c => ?_)
    · walk_at "rd"
      refine x_ixL (v := .int b) (lOf h1) (atI_zI (by omega) (by simp only [List.length_cons]; omega)) ?_
      walk_at "rd"
      refine x_rI n0 ?_
      walk_at "rd"
      refine x_ixL (v := .int b) (lOf h1) (atI_zI (by omega) (by simp only [List.length_cons]; omega)) ?_
      walk_at "rd"
      refine x_rI ⟨n0, n1⟩ ?_
      walk_at "rd"
      refine ⟨_, rfl, d, _, _, 1, rfl, rfl, h1, ixN_z (by omega) (by simp only [List.length_cons]; omega), ?_⟩
      walk_at "rd"
      have hs : (zI (a :: b :: l)).set 1 (V.int (b / n)) = zI (a :: (b / n) :: l) := rfl
      rw [hs]
      refine h _ _ (k.trans kp_set) ⟨_, upd_same, by simp, fun x hx => ?_, hsm⟩ (Int.emod_nonneg _ (by omega)) (Int.emod_lt_of_pos _ n0)
      rcases List.mem_cons.mp hx with z | hx
      · omega
      · rcases List.mem_cons.mp hx with z | hx
        · rw [z]; exact Int.ediv_nonneg hb (by omega)
        · exact hl x hx
    · walk_at "rd"
      refine x_ixL (v := .int a) (lOf h1) (atI_zI (by omega) (by simp only [List.length_cons]; omega)) ?_
      walk_at "rd"
      refine x_rI (.inl (by omega)) ?_
      walk_at "rd"
      refine x_rI (by decide) ?_
      refine ⟨_, rfl, d, _, _, 0, rfl, rfl, h1, ixN_z (by omega) (by simp only [List.length_cons]; omega), ?_⟩
      have hs : (zI (a :: b :: l)).set 0 (V.int ((a * 48271 + 11) % 2147483647)) = zI (((a * 48271 + 11) % 2147483647) :: b :: l) := rfl
      rw [hs]
      have r0 : 0 ≤ (a * 48271 + 11) % 2147483647 := Int.emod_nonneg _ (by decide)
      have r1 : (a * 48271 + 11) % 2147483647 < 2147483647 := Int.emod_lt_of_pos _ (by decide)
      generalize (a * 48271 + 11) % 2147483647 = a' at *
      walk_at "rd"
      refine x_ixL (v := .int a') (lOf upd_same) (atI_zI (by omega) (by simp only [List.length_cons]; omega)) ?_
      walk_at "rd"
      refine x_rI ⟨by decide, by decide⟩ ?_
      walk_at "rd"
      refine x_rI n0 ?_
      refine h _ _ (k.trans kp_set) ⟨_, upd_same, by simp, fun x hx => ?_, r1⟩ (Int.emod_nonneg _ (by omega)) (Int.emod_lt_of_pos _ n0)
      rcases List.mem_cons.mp hx with z | hx
      · omega
      · rcases List.mem_cons.mp hx with z | hx
        · omega
        · exact hl x hx
  refine x_ixL (v := .int b) (lOf hd) (atI_zI (by omega) (by simp only [List.length_cons]; omega)) ?_
  walk_at "rd"
  refine x_rEq rfl ?_
  walk_at "rd"
  refine x_iteD (fun c => ?_) (fun c => ?_)
  · walk_at "rd"
    refine x_lenL (lOf hd) ?_
    walk_at "rd"
    by_cases c2 : (2 : Int) < ((a :: b :: l).length : Nat)
    · rw [decide_eq_true c2]
      refine iteT ?_
      walk_at "rd"
      obtain ⟨x, m, rfl⟩ : ∃ x m, l = x :: m := by
        cases l with
        | nil => simp at c2
        | cons x m => exact ⟨x, m, rfl⟩
      refine x_ty hd ?_
      walk_at "rd"
      refine ⟨d, _, 2, 2, .int x, rfl, rfl, hd, by decide, by decide, ?_, rfl, ?_⟩
      · rw [zI_len]
        have e := ixN_seq (n := (a :: b :: x :: m).length) (i := 2) (j := 2) (by have := @ixN_z (a :: b :: x :: m) 2 (by omega) (by simp only [List.length_cons]; omega); rw [zI_len] at this; exact this)
        exact e.1
      · have he : (zI (a :: b :: x :: m)).eraseIdx 2 = zI (a :: b :: m) := rfl
        rw [he]
        refine ⟨_, rfl, d, _, _, 1, rfl, rfl, upd_same, ixN_z (by omega) (by simp only [List.length_cons]; omega), ?_⟩
        rw [upd_upd]
        exact rest x m _ (hl x (by simp)) (fun y hy => hl y (by simp [hy])) kp_set upd_same
    · rw [decide_eq_false c2]
      refine iteF ?_
      refine x_next ?_
      exact rest b l H hb hl Kp.refl hd
  · refine iteF ?_
    refine x_next ?_
    exact rest b l H hb hl Kp.refl hd
end
end TkL


namespace TkL
open PySem PySem.Spec PySem.Calls PyProof.Rows L2 Tk
theorem d_ne {H H1 : Hp} {d D : Addr} (D0 : DAt d H1) (h : H1 D = none) : D ≠ d := fun e => by
  obtain ⟨ds, hd, _⟩ := D0
  subst e
  rw [hd] at h
  cases h
theorem DAt.upd {H : Hp} {d D : Addr} {o : HO} (D0 : DAt d H) (h : D ≠ d) : DAt d (upd H D o) := by
  obtain ⟨ds, hd, w⟩ := D0
  exact ⟨ds, by rw [upd_ne h.symm]; exact hd, w⟩
theorem Kp.newD {H H' : Hp} {d D : Addr} {o : HO} (k : Kp d H H') (h : H D = none) : Kp d H (upd H' D o) := fun x u hx e => by
  by_cases c : x = D
  · subst c; rw [h] at e; cases e
  · rw [upd_ne c]; exact k x u hx e
theorem lcK {lo : Int} {n : Nat} {H1 : Hp} {d : Addr} (D0 : DAt d H1) {j : Nat} {te : TE} {σ : L2.St} {Q : Addr → Hp → Prop} (P : Int → Prop) (hz : n ≤ 1000000)
    (hv : ∀ (i : Nat) H' (Qv : VK), i < n → Kp d H1 H' → DAt d H' → (∀ H'' v, Kp d H' H'' → DAt d H'' → P v → Qv (.int v) H'') → te ((wipe σ [j]).set j (some (.int (lo + (i : Int))))) H' Qv)
    (hd : ∀ D H' l, Kp d H1 H' → DAt d H' → H1 D = none → H' D = some (.lst (zI l)) → l.length = n → (∀ x ∈ l, P x) → Q D H') :
    ∀ D, H1 D = none → ∃ W : Nat → Nat → Hp → Prop, (∃ m, W 0 m (upd H1 D (.lst []))) ∧ ∀ i m H, W i m H →
      ((Itr lo n).stop i H ∧ Q D H) ∨ ((Itr lo n).go i H ∧ ∃ Nx : Hp → Prop, (∀ H', Nx H' → ∃ m', m' < m ∧ W (i + 1) m' H') ∧ ∀ x H', (Itr lo n).yld i H x H' → gName j x (wipe σ [j]) H' fun σ2 H2 => wipe σ2 [j] = wipe σ [j] ∧ tYes σ2 H2 fun b H3 =>
        if b = true then te σ2 H3 fun y H4 => ∃ acc, H4 D = some (.lst acc) ∧ acc.length < sizeLine ∧ Nx (upd H4 D (.lst (acc ++ [y]))) else Nx H3) := by
  intro D hD
  have hDd : D ≠ d := d_ne (H := H1) D0 hD
  refine ⟨fun i m H => m = n - i ∧ i ≤ n ∧ ∃ l, Kp d H1 H ∧ DAt d H ∧ H D = some (.lst (zI l)) ∧ l.length = i ∧ ∀ x ∈ l, P x, ⟨_, rfl, Nat.zero_le _, [], Kp.newD Kp.refl hD, D0.upd hDd, upd_same, rfl, fun _ h => absurd h List.not_mem_nil⟩, ?_⟩
  rintro i m H ⟨rfl, hi, l, k, D1, hl, ll, lp⟩
  by_cases hlt : i < n
  · refine .inr ⟨hlt, fun H' => ∃ l, Kp d H1 H' ∧ DAt d H' ∧ H' D = some (.lst (zI l)) ∧ l.length = i + 1 ∧ ∀ x ∈ l, P x, fun H' h => ⟨_, by omega, rfl, hlt, h⟩, fun x H' y => ?_⟩
    obtain ⟨rfl, rfl⟩ := y
    show wipe _ [j] = _ ∧ _
    refine ⟨wipe_set1 _ _ _, ?_⟩
    refine x_yes (iteT ?_)
    refine hv i H' _ hlt k D1 fun H'' v k2 D2 hp => ?_
    have hl2 : H'' D = some (.lst (zI l)) := k2 D _ hDd hl
    refine ⟨_, hl2, sz_lt (by rw [zI_len]; omega), l ++ [v], Kp.newD (k.trans k2) hD, D2.upd hDd, by rw [upd_same, zI_snoc], by rw [List.length_append]; simp [ll], fun x hx => ?_⟩
    rcases List.mem_append.mp hx with z | z
    · exact lp x z
    · rw [List.mem_singleton.mp z]; exact hp
  · have : i = n := by omega
    subst this
    exact .inl ⟨Nat.le_refl _, hd D H l k D1 hD hl ll lp⟩
section
variable {K : PySem.W.Frag} {C : Addr} {H : Hp} {Q : VK} {d : Addr}
theorem x_irng1 {ta : TA} {σ : L2.St} {R : It → Hp → Prop} (h : ta σ H fun vs H1 => ∃ j, vs = [.int j] ∧ -2 ^ 62 ≤ j ∧ j < 2 ^ 62 ∧ R (Itr 0 j.toNat) H1) : iRng1 ta σ H R := h
theorem x_below {n : Int} {E : XK} (D : DAt d H) (h0 : 0 < n) (h1 : n < 1073741824) (h : ∀ H' v, Kp d H H' → DAt d H' → 0 ≤ v → v < n → Q (.int v) H') : spBelow [.ref d, .int n] H Q E := ⟨d, n, rfl, D, h0, h1, h⟩
end
section
variable {K : PySem.W.Frag} {C : Addr}
theorem rdLlaps (T : TyF K C) (vs : List V) (H : Hp) (Q : VK) (E : XK) (h : spLawLaps vs H Q E) : tLlaps K { nx := fun _ H' => Q .non H', rt := Q } (start ["_law_d", "_law_most", "_law_longest", "_law_k"] vs) H := by
  obtain ⟨d, m, rfl, D, m1, m2, h⟩ := h
  unfold tLlaps
  walk_at "rd"
  refine x_lst ?_
  walk_at "rd"
  refine ⟨by show 3 ≤ sizeLine; decide, ?_⟩
  (intro p hp; generalize hX : upd _ p _ = H1; have e1 := ex_of hX hp; have h1 := at_of hX; clear hX)
  walk_at "rd"
  have D1 := D.ex e1
  refine x_below D1 (by decide) (by decide) fun H2 v k2 D2 v0 v3 => ?_
  have hpd : p ≠ d := d_ne (H := H) D hp
  have h2 := k2 p _ hpd h1
  obtain ⟨lg, hlg, l0, l1⟩ : ∃ lg : Int, atI ([.int 3, .int 9, .int 60] : List V) v = some (.int lg) ∧ 1 ≤ lg ∧ lg ≤ 60 := by
    have : v = 0 ∨ v = 1 ∨ v = 2 := by omega
    rcases this with rfl | rfl | rfl
    · exact ⟨3, rfl, by decide, by decide⟩
    · exact ⟨9, rfl, by decide, by decide⟩
    · exact ⟨60, rfl, by decide, by decide⟩
  refine x_ixL (lOf h2) hlg ?_
  walk_at "rd"
  refine x_lc (x_irng1 ?_)
  walk_at "rd"
  refine x_below D2 (by omega) (by omega) fun H3 w k3 D3 w0 wm => ?_
  walk_at "rd"
  refine ⟨_, rfl, by omega, by omega, ?_⟩
  refine lcK D3 (fun x => 1 ≤ x ∧ x ≤ 60) (by omega) (fun i H' Qv _ k D' q => ?_) (fun F H4 l k4 D4 hF hl ll lp => ?_)
  · walk_at "rd"
    refine x_below D' (by omega) (by omega) fun H5 x k5 D5 x0 x1 => ?_
    walk_at "rd"
    exact q H5 _ k5 D5 ⟨by omega, by omega⟩
  · walk_at "rd"
    refine x_tupL hl fun q H5 e5 hq h5 => ?_
    refine h H5 q l (((e1.kp.trans k2).trans (k3.trans k4)).trans e5.kp) (D4.ex e5) h5 (fun z => ?_) (by omega) lp
    have : l.length = 0 := by rw [z]; rfl
    omega
theorem rdLplan (T : TyF K C) (vs : List V) (H : Hp) (Q : VK) (E : XK) (h : spPlan vs H Q E) : tLplan K { nx := fun _ H' => Q .non H', rt := Q } (start ["_law_d", "_law_most", "_law_first"] vs) H := by
  obtain ⟨d, m, rfl, D, m1, m2, h⟩ := h
  unfold tLplan
  walk_at "rd"
  refine x_below D (by decide) (by decide) fun H1 v k1 D1 v0 v2 => ?_
  walk_at "rd"
  refine x_rEq rfl ?_
  walk_at "rd"
  have rest : ∀ (pf : Addr) (fs : List Int) (H2 : Hp), Kp d H H2 → DAt d H2 → H2 pf = some (.tup (zI fs)) → fs.length ≤ 3 → (∀ x ∈ fs, 1 ≤ x ∧ x ≤ 60) →
      tRet (tTup (tCons (tDef (spBelow) E0 (tCons (tVar 0) (tCons (tOp (rIxL K) (tLst (tCons (tC (.int 9)) (tCons (tC (.int 60)) tNil))) (tDef (spBelow) E0 (tCons (tVar 0) (tCons (tC (.int 2)) tNil)))) tNil))) (tCons (tVar 2) (tCons (tDef (spLawLaps) E0 (tCons (tVar 0) (tCons (tVar 1) tNil))) tNil))))
        { nx := fun _ H' => Q .non H', rt := Q } [some (.ref d), some (.int m), some (.ref pf)] H2 := fun pf fs H2 k2 D2 hpf fl fr => by
    walk_at "rd"
    refine x_tup ?_
    walk_at "rd"
    refine x_lst ?_
    walk_at "rd"
    refine ⟨by show 2 ≤ sizeLine; decide, ?_⟩
    (intro p hp; generalize hX : upd _ p _ = H3; have e3 := ex_of hX hp; have h3 := at_of hX; clear hX)
    walk_at "rd"
    have D3 := D2.ex e3
    refine x_below D3 (by decide) (by decide) fun H4 v k4 D4 v0 v2 => ?_
    have hpd : p ≠ d := d_ne (H := H2) D2 hp
    have h4 := k4 p _ hpd h3
    obtain ⟨lg, hlg, l0, l1⟩ : ∃ lg : Int, atI ([.int 9, .int 60] : List V) v = some (.int lg) ∧ 1 ≤ lg ∧ lg ≤ 60 := by
      have : v = 0 ∨ v = 1 := by omega
      rcases this with rfl | rfl
      · exact ⟨9, rfl, by decide, by decide⟩
      · exact ⟨60, rfl, by decide, by decide⟩
    refine x_ixL (lOf h4) hlg ?_
    walk_at "rd"
    refine x_below D4 (by omega) (by omega) fun H5 s k5 D5 s0 s1 => ?_
    walk_at "rd"
    refine ⟨d, m, rfl, D5, m1, m2, fun H6 pl ls k6 D6 hpl hne hlen hlr => ?_⟩
    walk_at "rd"
    refine ⟨by show 3 ≤ sizeLine; decide, ?_⟩
    (intro q hq; generalize hX : upd _ q _ = H7; have e7 := ex_of hX hq; have h7 := at_of hX; clear hX)
    have k26 : Kp d H2 H6 := e3.kp.trans (k4.trans (k5.trans k6))
    have hpf6 : H6 pf = some (.tup (zI fs)) := k26 pf _ (kp_ne D2 hpf fun _ z => by cases z) hpf
    exact h H7 q s pf fs pl ls (k2.trans (k26.trans e7.kp)) (D6.ex e7) h7 (e7 _ _ hpf6) (e7 _ _ hpl) ⟨s0, by omega, fl, fr, hne, hlen, hlr⟩
  refine x_iteD (fun c => ?_) (fun c => ?_)
  · refine x_tup0 fun p H2 e2 hp h2 => ?_
    refine x_name ?_
    exact rest p [] H2 (k1.trans e2.kp) (D1.ex e2) h2 (by simp) (fun _ z => absurd z List.not_mem_nil)
  · walk_at "rd"
    refine ⟨d, 3, rfl, D1, by decide, by decide, fun H2 p fs k2 D2 hp _ hlen hr => ?_⟩
    refine x_name ?_
    exact rest p fs H2 (k1.trans k2) D2 hp (by omega) hr
theorem rdLsome_tick (T : TyF K C) (vs : List V) (H : Hp) (Q : VK) (E : XK) (h : spSomeTick vs H Q E) : tLsome_tick K { nx := fun _ H' => Q .non H', rt := Q } (start ["_law_d"] vs) H := by
  obtain ⟨d, rfl, D, h⟩ := h
  unfold tLsome_tick
  walk_at "rd"
  refine x_lst ?_
  walk_at "rd"
  refine x_below D (by decide) (by decide) fun H1 v k1 D1 v0 v2 => ?_
  walk_at "rd"
  refine x_rI ⟨by decide, by decide, by decide⟩ ?_
  walk_at "rd"
  refine x_rI ⟨by decide, by decide, by decide⟩ ?_
  walk_at "rd"
  rw [pow18, pow6]
  refine x_below D1 (by decide) (by decide) fun H2 w k2 D2 w0 w2 => ?_
  walk_at "rd"
  refine ⟨by show 2 ≤ sizeLine; decide, ?_⟩
  (intro p hp; generalize hX : upd _ p _ = H3; have e3 := ex_of hX hp; have h3 := at_of hX; clear hX)
  walk_at "rd"
  have D3 := D2.ex e3
  refine x_below D3 (by decide) (by decide) fun H4 x k4 D4 x0 x2 => ?_
  have hpd : p ≠ d := d_ne (H := H2) D2 hp
  have h4 := k4 p _ hpd h3
  have kk : Kp d H H4 := (k1.trans k2).trans (e3.kp.trans k4)
  have : x = 0 ∨ x = 1 := by omega
  rcases this with rfl | rfl
  · refine x_ixL (v := .int v) (lOf h4) rfl ?_
    exact h H4 v kk D4 v0 (by omega)
  · refine x_ixL (v := .int (1000000000000000000 - w)) (lOf h4) rfl ?_
    exact h H4 _ kk D4 (by omega) (by omega)
theorem x_catV {H : Hp} {Q : VK} {p q : Addr} {l m : List V} (s : H p = some (.lst l)) (t : H q = some (.lst m)) (hz : l.length + m.length ≤ 1000000) (h : ∀ r H', Ex H H' → H r = none → H' r = some (.lst (l ++ m)) → Q (.ref r) H') : rCat (.ref p) (.ref q) H Q :=
  ⟨p, q, _, _, rfl, rfl, s, t, sz_of hz, x_new h⟩
theorem x_catA {K : PySem.W.Frag} {H : Hp} {Q : VK} {p q : Addr} {l m : List V} (s : SqT K H p l) (t : SqT K H q m) (hz : l.length + m.length ≤ 1000000) (h : ∀ r H', Ex H H' → SqT K H' r (l ++ m) → Q (.ref r) H') : rCatA K (.ref p) (.ref q) H Q :=
  ⟨p, q, _, _, rfl, rfl, s, t, sz_of hz, fun e => h q H (Ex.refl _) (by rw [e]; exact t), fun _ e => h p H (Ex.refl _) (by rw [e, List.append_nil]; exact s), fun _ _ r hr => h r _ (Ex.new hr) (tOf upd_same)⟩
theorem log_small {i : Int} (h0 : 0 ≤ i) (h1 : i < 1000000) : i.natAbs.log2 < 1920 := by
  have h2 : i.natAbs < 2 ^ 20 := by omega
  by_cases c : i.natAbs = 0
  · rw [c]; decide
  · have := (Nat.log2_lt c).mpr h2
    omega
theorem rdLrow (T : TyF K C) (vs : List V) (H : Hp) (Q : VK) (E : XK) (h : spLawRow K C vs H Q E) : tLrow K C { nx := fun _ H' => Q .non H', rt := Q } (start ["_law_plan_here", "_law_start", "_law_first", "_law_laps_here", "_law_lap", "_law_number"] vs) H := by
  obtain ⟨p, s, pf, fs, pl, ls, rfl, sp, sf, sl, ok, h⟩ := h
  have hf1 : ∀ x ∈ fs, 1 ≤ x := fun x hx => (ok.fr x hx).1
  have hl1 : ∀ x ∈ ls, 1 ≤ x := fun x hx => (ok.lr x hx).1
  have h0 := ok.s0
  have hs := ok.s1
  have hfl := ok.fl
  have hll := ok.ll
  have fsum : fs.sum ≤ 60 * (fs.length : Int) := by
    have key : ∀ l : List Int, (∀ x ∈ l, x ≤ 60) → l.sum ≤ 60 * (l.length : Int) := fun l => by
      induction l with
      | nil => intro _; simp
      | cons a l ih => intro hh; have := hh a (by simp); have := ih (fun x hx => hh x (by simp [hx])); rw [List.sum_cons, List.length_cons]; omega
    exact key fs fun x hx => (ok.fr x hx).2
  have lsum : ls.sum ≤ 60 * (ls.length : Int) := by
    have key : ∀ l : List Int, (∀ x ∈ l, x ≤ 60) → l.sum ≤ 60 * (l.length : Int) := fun l => by
      induction l with
      | nil => intro _; simp
      | cons a l ih => intro hh; have := hh a (by simp); have := ih (fun x hx => hh x (by simp [hx])); rw [List.sum_cons, List.length_cons]; omega
    exact key ls fun x hx => (ok.lr x hx).2
  unfold tLrow
  walk_at "rd"
  refine x_gtup3 sp ?_
  walk_at "rd"
  refine ⟨rfl, ?_⟩
  walk_at "rd"
  refine ⟨rfl, ?_⟩
  walk_at "rd"
  refine x_lc (x_itup ?_)
  walk_at "rd"
  refine x_tup ?_
  walk_at "rd"
  refine ⟨by show 1 ≤ sizeLine; decide, ?_⟩
  (intro A hA; generalize hX : upd _ A _ = H1; have e1 := ex_of hX hA; have h1 := at_of hX; clear hX)
  walk_at "rd"
  refine x_catA (l := [.int s]) (tOf h1) (e1.sqT sf) (by rw [zI_len]; simp; omega) fun B H2 e2 h2 => ?_
  have h2' : SqT K H2 B (zI (s :: fs)) := h2
  have nums : ∀ x ∈ s :: fs, 0 ≤ x ∧ x < 1000000 := fun x hx => by
    rcases List.mem_cons.mp hx with z | z
    · omega
    · have := ok.fr x z; omega
  refine ⟨B, rfl, ⟨_, h2'⟩, ?_⟩
  refine lcfI (Wk.tup h2') (fun _ => true) (fun n => .str (numS n)) (by simp; omega) (fun n H' Qb _ e q => q) (fun n H' Qv hn _ e q => ?_) (fun D H3 e3 hD hl3 => ?_)
  · walk_at "rd"
    exact ⟨n, rfl, log_small (nums n hn).1 (nums n hn).2, q⟩
  rw [List.filter_eq_self.mpr (fun _ _ => rfl)] at hl3
  refine x_lst ?_
  walk_at "rd"
  refine ⟨by show 1 ≤ sizeLine; decide, ?_⟩
  (intro F hF; generalize hX : upd _ F _ = H4; have e4 := ex_of hX hF; have h4 := at_of hX; clear hX)
  refine x_catV (e4 _ _ hl3) h4 (by simp; omega) fun G H5 e5 hG h5 => ?_
  refine x_lc (x_itup ?_)
  walk_at "rd"
  have sl5 : SqT K H5 pl (zI ls) := (e1.trans (e2.trans (e3.trans (e4.trans e5)))).sqT sl
  refine ⟨⟨_, sl5⟩, ?_⟩
  refine lcfI (Wk.tup sl5) (fun _ => true) (fun n => .str (numS n)) (by omega) (fun n H' Qb _ e q => q) (fun n H' Qv hn _ e q => ?_) (fun D2 H6 e6 hD2 hl6 => ?_)
  · walk_at "rd"
    exact ⟨n, rfl, log_small (by have := (ok.lr n hn).1; omega) (by have := (ok.lr n hn).2; omega), q⟩
  rw [List.filter_eq_self.mpr (fun _ _ => rfl)] at hl6
  refine x_catV (e6 _ _ h5) hl6 (by simp; omega) fun G2 H7 e7 hG2 h7 => ?_
  walk_at "rd"
  have ew : ((s :: fs).map fun n => V.str (numS n)) ++ [V.str "|"] ++ (ls.map fun n => V.str (numS n)) = (planWords s fs ls).map V.str := by
    unfold planWords
    simp [List.map_map, Function.comp_def]
  rw [ew] at h7
  have wl := word_len (s := s) (fs := fs) (ls := ls) h0 (by omega) (fun x hx => by have := ok.fr x hx; omega) (fun x hx => by have := ok.lr x hx; omega)
  have wc := wsum_le _ _ wl
  have wn := planWords_len (s := s) (fs := fs) (ls := ls)
  have jl := join_len wl
  refine ⟨" ", G2, planWords s fs ls, rfl, rfl, .inl (lOf h7), ?_, ?_⟩
  · have : (" " : Str).length = 1 := by decide
    rw [this]
    omega
  · refine ⟨_, _, rfl, by omega, parse_plan h0 hf1 hl1 ok.ln (by omega) (by omega), fun H8 a r e8 ha R hr => ?_⟩
    have eall := e1.trans (e2.trans (e3.trans (e4.trans (e5.trans (e6.trans e7)))))
    exact h H8 a r (eall.trans e8) (eall.back ha) R hr
end
end TkL


namespace Tk
theorem cntLe_cons {a : Int} {l : List Int} {t : Int} : cntLe (a :: l) t = (if a ≤ t then 1 else 0) + cntLe l t := by
  unfold cntLe
  rw [List.filter_cons]
  by_cases h : a ≤ t
  · rw [decide_eq_true h, if_pos rfl, if_pos h, List.length_cons]; omega
  · rw [decide_eq_false h, if_neg (by simp), if_neg h]; omega
theorem cntLe_all : ∀ {l : List Int} {t : Int}, (∀ x ∈ l, x ≤ t) → cntLe l t = l.length
  | [], _, _ => rfl
  | a :: l, t, h => by rw [cntLe_cons, if_pos (h a (by simp)), cntLe_all (fun x hx => h x (by simp [hx])), List.length_cons]; omega
theorem cntLe_none : ∀ {l : List Int} {t : Int}, (∀ x ∈ l, t < x) → cntLe l t = 0
  | [], _, _ => rfl
  | a :: l, t, h => by
    have := h a (by simp)
    rw [cntLe_cons, if_neg (by omega), cntLe_none (fun x hx => h x (by simp [hx]))]
theorem cntLe_step : ∀ {l : List Int} {t : Int}, l.Pairwise (· < ·) → cntLe l t = cntLe l (t - 1) + if t ∈ l then 1 else 0
  | [], t, _ => by simp [cntLe]
  | a :: l, t, h => by
    have h1 := List.pairwise_cons.mp h
    have ih := cntLe_step (t := t) h1.2
    rw [cntLe_cons, cntLe_cons, ih]
    by_cases e : t = a
    · subst e
      have hn : t ∉ l := fun z => by have := h1.1 t z; omega
      rw [if_neg hn, if_pos (Int.le_refl _), if_neg (show ¬ t ≤ t - 1 by omega), if_pos (show t ∈ t :: l by simp)]
      omega
    · have hm : (t ∈ a :: l) ↔ t ∈ l := by rw [List.mem_cons]; exact ⟨fun z => z.elim (fun z => absurd z e) id, .inr⟩
      have hc : (a ≤ t) ↔ (a ≤ t - 1) := by omega
      simp only [hm, hc]
      omega
theorem cntLe_get : ∀ {l : List Int} {i : Nat}, l.Pairwise (· < ·) → i < l.length → cntLe l (l.getD i 0) = i + 1
  | [], i, _, h => absurd h (Nat.not_lt_zero _)
  | a :: l, 0, h, _ => by
    have h1 := List.pairwise_cons.mp h
    show cntLe (a :: l) a = 1
    rw [cntLe_cons, if_pos (Int.le_refl _), cntLe_none h1.1]
  | a :: l, i + 1, h, hi => by
    have h1 := List.pairwise_cons.mp h
    have hi' : i < l.length := by simpa using hi
    show cntLe (a :: l) (l.getD i 0) = _
    have hm : l.getD i 0 ∈ l := by rw [List.getD_eq_getElem?_getD, List.getElem?_eq_getElem hi']; exact List.getElem_mem _
    have := h1.1 _ hm
    rw [cntLe_cons, if_pos (by omega), cntLe_get h1.2 hi']
    omega
theorem getD_mem {l : List Int} {i : Nat} (h : i < l.length) : l.getD i 0 ∈ l := by rw [List.getD_eq_getElem?_getD, List.getElem?_eq_getElem h]; exact List.getElem_mem _
theorem div_unique {u q s l : Int} (h0 : 0 ≤ s) (h1 : s < l) (e : u = q * l + s) : u / l = q ∧ u % l = s := by
  subst e
  have e1 : q * l + s = s + l * q := by rw [Int.mul_comm]; omega
  rw [e1, Int.add_mul_ediv_left _ _ (by omega), Int.add_mul_emod_self_left, Int.ediv_eq_zero_of_lt h0 h1, Int.emod_eq_of_lt h0 h1]
  exact ⟨by omega, rfl⟩
theorem count_step {r : RV} (w : WF r.early r.beg r.len r.offs) (t : Int) : r.count t = r.count (t - 1) + if r.has t = true then 1 else 0 := by
  have hl := w.l1
  unfold RV.count
  by_cases c1 : t < r.beg
  · rw [if_pos c1, if_pos (by omega), cntLe_step w.es, RV.has_lo c1]
    simp only [decide_eq_true_iff]
    split <;> simp
  · rw [if_neg c1, RV.has_hi (by omega)]
    simp only [decide_eq_true_iff]
    by_cases c2 : t - 1 < r.beg
    · have e : t - r.beg = 0 := by omega
      rw [if_pos c2, e, Int.zero_ediv, Int.zero_emod, cntLe_all (t := t - 1) (fun x hx => by have := (w.er x hx).2; omega), cntLe_step w.os, cntLe_none (fun x hx => by have := (w.ow x hx).1; omega)]
      simp
      split <;> simp
    · rw [if_neg c2]
      have hr0 : 0 ≤ (t - r.beg) % r.len := Int.emod_nonneg _ (by omega)
      have hr1 : (t - r.beg) % r.len < r.len := Int.emod_lt_of_pos _ (by omega)
      have hq : r.len * ((t - r.beg) / r.len) + (t - r.beg) % r.len = t - r.beg := Int.mul_ediv_add_emod _ _
      generalize (t - r.beg) / r.len = q at *
      generalize (t - r.beg) % r.len = s at *
      by_cases c3 : s = 0
      · have d := div_unique (u := t - 1 - r.beg) (q := q - 1) (s := r.len - 1) (l := r.len) (by omega) (by omega) (by rw [Int.sub_mul, Int.mul_comm q]; omega)
        rw [d.1, d.2, cntLe_all (l := r.offs) (t := r.len - 1) (fun x hx => by have := (w.ow x hx).2; omega)]
        subst c3
        rw [cntLe_step (t := 0) w.os, cntLe_none (fun x hx => by have := (w.ow x hx).1; omega), Int.sub_mul]
        split <;> simp <;> omega
      · have d := div_unique (u := t - 1 - r.beg) (q := q) (s := s - 1) (l := r.len) (by omega) (by omega) (by rw [Int.mul_comm q]; omega)
        rw [d.1, d.2, cntLe_step (t := s) w.os]
        split <;> simp <;> omega
theorem count_neg {r : RV} (w : WF r.early r.beg r.len r.offs) {t : Int} (h : t < 0) : r.count t = 0 := by
  have := w.b0
  unfold RV.count
  rw [if_pos (by omega), cntLe_none (fun x hx => by have := (w.er x hx).1; omega)]
  rfl
theorem count_monoN {r : RV} (w : WF r.early r.beg r.len r.offs) (t : Int) : ∀ k : Nat, r.count t ≤ r.count (t + k) ∧ r.count (t + k) ≤ r.count t + k
  | 0 => by simp
  | k + 1 => by
    have ih := count_monoN w t k
    have s := count_step w (t + ((k + 1 : Nat) : Int))
    have e : t + ((k + 1 : Nat) : Int) - 1 = t + k := by omega
    rw [e] at s
    split at s <;> omega
theorem count_mono {r : RV} (w : WF r.early r.beg r.len r.offs) {t u : Int} (h : t ≤ u) : r.count t ≤ r.count u := by
  have := (count_monoN w t (u - t).toNat).1
  have e : t + ((u - t).toNat : Int) = u := by omega
  rwa [e] at this
theorem count_le {r : RV} (w : WF r.early r.beg r.len r.offs) {t : Int} (h : -1 ≤ t) : r.count t ≤ t + 1 := by
  have := (count_monoN w (-1) (t + 1).toNat).2
  have e : -1 + ((t + 1).toNat : Int) = t := by omega
  rw [e, count_neg w (t := -1) (by omega)] at this
  omega
theorem count_nn {r : RV} (w : WF r.early r.beg r.len r.offs) (t : Int) : 0 ≤ r.count t := by
  rcases Int.lt_or_le t 0 with h | h
  · rw [count_neg w h]; exact Int.le_refl _
  · have := count_mono w (t := -1) (u := t) (by omega)
    rwa [count_neg w (by omega)] at this
theorem count_lt {r : RV} (w : WF r.early r.beg r.len r.offs) {t u : Int} (h : t < u) (hu : r.has u = true) : r.count t < r.count u := by
  have s := count_step w u
  rw [if_pos hu] at s
  have := count_mono w (t := t) (u := u - 1) (by omega)
  omega
theorem nth_ok {r : RV} (w : WF r.early r.beg r.len r.offs) {n : Int} (h0 : 0 ≤ n) (h : n < r.early.length ∨ r.offs ≠ []) : r.has (r.nth n) = true ∧ r.count (r.nth n) = n + 1 := by
  unfold RV.nth
  by_cases c : n < r.early.length
  · rw [if_pos c]
    have hi : n.toNat < r.early.length := by omega
    have hm := getD_mem hi
    have hr := (w.er _ hm).2
    refine ⟨by rw [RV.has_lo hr]; exact decide_eq_true hm, ?_⟩
    unfold RV.count
    rw [if_pos hr, cntLe_get w.es hi]
    omega
  · rw [if_neg c]
    have ho : r.offs ≠ [] := h.elim (fun z => absurd z c) id
    have hol := List.length_pos_iff.mpr ho
    have m0 : 0 ≤ (n - r.early.length) / r.offs.length := Int.ediv_nonneg (by omega) (by omega)
    have i0 : 0 ≤ (n - r.early.length) % r.offs.length := Int.emod_nonneg _ (by omega)
    have i1 : (n - r.early.length) % r.offs.length < r.offs.length := Int.emod_lt_of_pos _ (by omega)
    have hq : (r.offs.length : Int) * ((n - r.early.length) / r.offs.length) + (n - r.early.length) % r.offs.length = n - r.early.length := Int.mul_ediv_add_emod _ _
    generalize (n - r.early.length) / r.offs.length = q at *
    generalize (n - r.early.length) % r.offs.length = i at *
    have hi : i.toNat < r.offs.length := by omega
    have hm := getD_mem hi
    have hx := w.ow _ hm
    have hl := w.l1
    have hql : 0 ≤ q * r.len := Int.mul_nonneg m0 (by omega)
    have d := div_unique (u := r.beg + q * r.len + r.offs.getD i.toNat 0 - r.beg) (q := q) hx.1 hx.2 (by omega)
    refine ⟨?_, ?_⟩
    · rw [RV.has_hi (by omega), d.2]; exact decide_eq_true hm
    · unfold RV.count
      rw [if_neg (by omega), d.1, d.2, cntLe_get w.os hi, Int.mul_comm q]
      omega
theorem nth_eq {r : RV} (w : WF r.early r.beg r.len r.offs) {n u : Int} (h0 : 0 ≤ n) (h : n < r.early.length ∨ r.offs ≠ []) (hu : r.has u = true) (hc : r.count u = n + 1) : r.nth n = u := by
  have k := nth_ok w h0 h
  rcases Int.lt_trichotomy (r.nth n) u with z | z | z
  · have := count_lt w z hu; omega
  · exact z
  · have := count_lt w z k.1; omega
theorem nth_lt {r : RV} (w : WF r.early r.beg r.len r.offs) (ho : r.offs ≠ []) {m n : Int} (h0 : 0 ≤ m) (h : m < n) : r.nth m < r.nth n := by
  have a := nth_ok w h0 (.inr ho)
  have b := nth_ok w (n := n) (by omega) (.inr ho)
  rcases Int.lt_or_le (r.nth m) (r.nth n) with z | z
  · exact z
  · have := count_mono w z; omega
theorem nth_nn {r : RV} (w : WF r.early r.beg r.len r.offs) {n : Int} (h0 : 0 ≤ n) (h : n < r.early.length ∨ r.offs ≠ []) : 0 ≤ r.nth n := by
  have a := nth_ok w h0 h
  rcases Int.lt_or_le (r.nth n) 0 with z | z
  · rw [count_neg w z] at a; omega
  · exact z
theorem nth_next {r : RV} (w : WF r.early r.beg r.len r.offs) (ho : r.offs ≠ []) (t : Int) : t < r.nth (r.count t) ∧ ∀ u, t < u → r.has u = true → r.nth (r.count t) ≤ u := by
  have a := nth_ok w (count_nn w t) (.inr ho)
  constructor
  · rcases Int.lt_or_le t (r.nth (r.count t)) with z | z
    · exact z
    · have := count_mono w z; omega
  · intro u hu hh
    rcases Int.lt_or_le u (r.nth (r.count t)) with z | z
    · have h1 := count_lt w hu hh
      have h2 := count_lt w z a.1
      omega
    · exact z
theorem nth_last {r : RV} (w : WF r.early r.beg r.len r.offs) (ho : r.offs ≠ []) {t : Int} (h : 0 < r.count t) : r.nth (r.count t - 1) ≤ t ∧ (r.has t = true → r.nth (r.count t - 1) = t) := by
  have a := nth_ok w (n := r.count t - 1) (by omega) (.inr ho)
  constructor
  · rcases Int.lt_or_le t (r.nth (r.count t - 1)) with z | z
    · have := count_lt w z a.1; omega
    · exact z
  · intro ht
    exact nth_eq w (by omega) (.inr ho) ht (by omega)
theorem count_rounds {r : RV} (w : WF r.early r.beg r.len r.offs) {k : Int} (h : 0 ≤ k) : r.count (r.beg + k * r.len) - r.count r.beg = k * r.offs.length := by
  have hl := w.l1
  have hk : 0 ≤ k * r.len := Int.mul_nonneg h (by omega)
  have d := div_unique (u := r.beg + k * r.len - r.beg) (q := k) (s := 0) (l := r.len) (Int.le_refl _) (by omega) (by omega)
  unfold RV.count
  rw [if_neg (by omega), if_neg (by omega), d.1, d.2, Int.sub_self, Int.zero_ediv, Int.zero_emod]
  omega
theorem nth_rounds {r : RV} (w : WF r.early r.beg r.len r.offs) (ho : r.offs ≠ []) {n k : Int} (h : (r.early.length : Int) ≤ n) (hk : 0 ≤ k) : r.nth (n + k * r.offs.length) = r.nth n + k * r.len := by
  have hol := List.length_pos_iff.mpr ho
  have hkl : 0 ≤ k * (r.offs.length : Int) := Int.mul_nonneg hk (by omega)
  unfold RV.nth
  rw [if_neg (by omega), if_neg (by omega)]
  have e : n + k * (r.offs.length : Int) - r.early.length = (n - r.early.length) + (r.offs.length : Int) * k := by rw [Int.mul_comm k]; omega
  rw [e, Int.add_mul_ediv_left _ _ (by omega), Int.add_mul_emod_self_left, Int.add_mul]
  omega
theorem tks_gap : ∀ {a : Int} {l : List Int} {t g : Int}, (∀ x ∈ l, 1 ≤ x ∧ x ≤ g) → a ≤ t → t < a + l.sum → ∃ u ∈ tks a l, t < u ∧ u ≤ t + g
  | a, [], t, g, _, h1, h2 => by simp at h2; omega
  | a, b :: l, t, g, h, h1, h2 => by
    have hb := h b (by simp)
    rw [List.sum_cons] at h2
    by_cases c : t < a + b
    · refine ⟨a + b, ?_, c, by omega⟩
      show a + b ∈ a :: tks (a + b) l
      refine List.mem_cons_of_mem _ ?_
      cases l <;> simp [tks]
    · obtain ⟨u, hu, q⟩ := tks_gap (a := a + b) (l := l) (g := g) (t := t) (fun x hx => h x (by simp [hx])) (by omega) (by omega)
      exact ⟨u, List.mem_cons_of_mem _ hu, q⟩
theorem tks_mem {a : Int} {l : List Int} {u : Int} (h : u ∈ tks a l) : u ∈ (tks a l).dropLast ∨ u = a + l.sum := by
  rw [tks_split] at h
  rcases List.mem_append.mp h with z | z
  · exact .inl z
  · exact .inr (List.mem_singleton.mp z)
theorem tks_first {l : List Int} (h : l ≠ []) : (0 : Int) ∈ (tks 0 l).dropLast := by
  cases l with
  | nil => exact absurd rfl h
  | cons b l =>
    show (0 : Int) ∈ (0 :: tks (0 + b) l).dropLast
    rw [List.dropLast_cons_of_ne_nil tks_ne]
    exact List.mem_cons_self
theorem plan_gap {s : Int} {fs ls : List Int} {g : Int} (hf : ∀ x ∈ fs, 1 ≤ x ∧ x ≤ g) (hl : ∀ x ∈ ls, 1 ≤ x ∧ x ≤ g) (hn : ls ≠ []) {t : Int} (ht : s ≤ t) : ∃ u, t < u ∧ u ≤ t + g ∧ planHas s fs ls u = true := by
  have hL := sum_ge (fun x hx => (hl x hx).1)
  have hLp := List.length_pos_iff.mpr hn
  have z0 := tks_first hn
  have hB : planHas s fs ls (s + fs.sum) = true := by
    unfold planHas
    rw [qhas_hi (Int.le_refl _), Int.sub_self, Int.zero_emod]
    exact decide_eq_true z0
  rcases Int.lt_or_le t (s + fs.sum) with c | c
  · obtain ⟨u, hu, h1, h2⟩ := tks_gap (a := s) hf ht c
    rcases tks_mem hu with z | z
    · refine ⟨u, h1, h2, ?_⟩
      unfold planHas
      rw [qhas_lo ((tks_front (fun x hx => (hf x hx).1)).2 u z).2]
      exact decide_eq_true z
    · exact ⟨u, h1, h2, by rw [z]; exact hB⟩
  · have w0 : 0 ≤ (t - (s + fs.sum)) % ls.sum := Int.emod_nonneg _ (by omega)
    have w1 : (t - (s + fs.sum)) % ls.sum < ls.sum := Int.emod_lt_of_pos _ (by omega)
    have hq : ls.sum * ((t - (s + fs.sum)) / ls.sum) + (t - (s + fs.sum)) % ls.sum = t - (s + fs.sum) := Int.mul_ediv_add_emod _ _
    generalize (t - (s + fs.sum)) / ls.sum = q at *
    generalize (t - (s + fs.sum)) % ls.sum = y at *
    obtain ⟨u, hu, h1, h2⟩ := tks_gap (a := 0) hl w0 (by omega)
    refine ⟨t + (u - y), by omega, by omega, ?_⟩
    unfold planHas
    rw [qhas_hi (by omega)]
    have e : t + (u - y) - (s + fs.sum) = u + ls.sum * q := by omega
    rw [e, Int.add_mul_emod_self_left]
    rcases tks_mem hu with z | z
    · have hr := (tks_front (fun x hx => (hl x hx).1)).2 u z
      rw [Int.emod_eq_of_lt hr.1 (by omega)]
      exact decide_eq_true z
    · rw [z, Int.zero_add, Int.emod_self]
      exact decide_eq_true z0
end Tk


namespace Tk
theorem plan_start {s : Int} {fs ls : List Int} (hf : ∀ x ∈ fs, 1 ≤ x) (hn : ls ≠ []) : planHas s fs ls s = true := by
  have z0 := tks_first hn
  unfold planHas
  cases fs with
  | nil =>
    rw [qhas_hi (by simp)]
    simp only [List.sum_nil, Int.add_zero, Int.sub_self, Int.zero_emod]
    exact decide_eq_true z0
  | cons b l =>
    have hb := hf b (by simp)
    have hs := sum_ge (fun x hx => hf x (List.mem_cons_of_mem b hx))
    rw [List.sum_cons, qhas_lo (by omega)]
    refine decide_eq_true ?_
    show s ∈ (s :: tks (s + b) l).dropLast
    rw [List.dropLast_cons_of_ne_nil tks_ne]
    exact List.mem_cons_self
structure PR (r : RV) (L : Int) : Prop where
  w : WF r.early r.beg r.len r.offs
  ho : r.offs ≠ []
  ll : r.len ≤ L
  gap : ∀ t, 0 ≤ t → r.nth (r.count t) - t ≤ 60 + r.nth 0
theorem plan_row {r : RV} {m s : Int} {fs ls : List Int} (rb : RB r) (ok : TkL.PlanOk m s fs ls) (hr : ∀ t, r.has t = planHas s fs ls t) : PR r ls.sum := by
  have hf1 : ∀ x ∈ fs, 1 ≤ x := fun x hx => (ok.fr x hx).1
  have hl1 : ∀ x ∈ ls, 1 ≤ x := fun x hx => (ok.lr x hx).1
  have w := rb.c.wf
  have ho : r.offs ≠ [] := fun z => by
    obtain ⟨u, h1, h2, h3⟩ := plan_gap (s := s) ok.fr ok.lr ok.ln (t := max s r.beg) (by omega)
    rw [← hr, RV.has_hi (show r.beg ≤ u by omega), z] at h3
    simp at h3
  have wp := plan_wf ok.s0 hf1 hl1 ok.ln
  refine ⟨w, ho, ?_, fun t ht => ?_⟩
  · have p : Per (planHas s fs ls) (s + fs.sum) ls.sum := qhas_per wp.l1
    refine rb.c.ml ls.sum (s + fs.sum) wp.l1 fun t ht => ?_
    rw [hr, hr]
    exact p t ht
  · have n0 := nth_nn w (n := 0) (Int.le_refl _) (.inr ho)
    have nx := nth_next w ho t
    rcases Int.lt_or_le t s with c | c
    · have := nx.2 s c (by rw [hr]; exact plan_start hf1 ok.ln)
      have := ok.s1
      omega
    · obtain ⟨u, h1, h2, h3⟩ := plan_gap ok.fr ok.lr ok.ln c
      have := nx.2 u h1 (by rw [hr]; exact h3)
      omega
theorem flaps_len {r : RV} (ho : r.offs ≠ []) : r.flaps.length = r.early.length := by
  have := List.length_pos_iff.mpr ho
  unfold RV.flaps
  rw [diffs_len, List.length_append, List.length_map, List.length_take]
  omega
theorem laps_len {r : RV} : r.laps.length = r.offs.length := by
  unfold RV.laps
  rw [diffs_len, List.length_append, List.length_map, List.length_take]
  omega
theorem nth_early {r : RV} (ho : r.offs ≠ []) {k : Nat} (h : k ≤ r.early.length) : r.nth k = (r.early ++ (r.offs.take 1).map (r.beg + ·)).getD k 0 := by
  have ho1 : r.offs.take 1 = [r.offs.getD 0 0] := by
    cases hh : r.offs with
    | nil => exact absurd hh ho
    | cons b l => rfl
  have hol := List.length_pos_iff.mpr ho
  unfold RV.nth
  rw [ho1, List.map_singleton]
  by_cases c : k < r.early.length
  · rw [if_pos (by omega), Int.toNat_natCast]
    simp only [List.getD_eq_getElem?_getD]
    rw [List.getElem?_append_left c]
  · have e : k = r.early.length := by omega
    subst e
    rw [if_neg (by omega), Int.sub_self, Int.zero_ediv, Int.zero_emod]
    simp [List.getD_eq_getElem?_getD]
theorem nth_late {r : RV} (ho : r.offs ≠ []) {j : Nat} (h : j ≤ r.offs.length) : r.nth (r.early.length + j) = r.beg + (r.offs ++ (r.offs.take 1).map (· + r.len)).getD j 0 := by
  have ho1 : r.offs.take 1 = [r.offs.getD 0 0] := by
    cases hh : r.offs with
    | nil => exact absurd hh ho
    | cons b l => rfl
  have hol := List.length_pos_iff.mpr ho
  unfold RV.nth
  have e : (r.early.length : Int) + j - r.early.length = j := by omega
  rw [ho1, List.map_singleton, if_neg (by omega), e]
  by_cases c : j < r.offs.length
  · rw [Int.ediv_eq_zero_of_lt (by omega) (by omega), Int.emod_eq_of_lt (by omega) (by omega), Int.toNat_natCast]
    simp only [List.getD_eq_getElem?_getD]
    rw [List.getElem?_append_left c]
    omega
  · have e2 : j = r.offs.length := by omega
    subst e2
    rw [Int.ediv_self (by omega), Int.emod_self]
    simp [List.getD_eq_getElem?_getD]
    omega
theorem laps_get {r : RV} (w : WF r.early r.beg r.len r.offs) (ho : r.offs ≠ []) (m : Nat) {k : Nat} (hk : k < (r.flaps ++ (List.replicate m r.laps).flatten).length) : (r.flaps ++ (List.replicate m r.laps).flatten).getD k 0 = r.nth ((k : Int) + 1) - r.nth k := by
  have hol := List.length_pos_iff.mpr ho
  have fl := flaps_len ho
  by_cases c : k < r.early.length
  · have e : ((k : Int) + 1) = ((k + 1 : Nat) : Int) := by omega
    rw [e, nth_early ho (by omega), nth_early ho (by omega)]
    simp only [List.getD_eq_getElem?_getD]
    rw [List.getElem?_append_left (by omega)]
    unfold RV.flaps
    rw [diffs_get (by rw [List.length_append, List.length_map, List.length_take]; omega)]
    simp [List.getD_eq_getElem?_getD]
  · obtain ⟨j, rfl⟩ : ∃ j, k = r.early.length + j := ⟨k - r.early.length, by omega⟩
    have one : ∀ i : Nat, i < r.offs.length → r.laps.getD i 0 = r.nth ((r.early.length + i : Nat) + 1) - r.nth (r.early.length + i : Nat) := fun i hi => by
      have e : ((r.early.length + i : Nat) : Int) + 1 = (r.early.length : Int) + ((i + 1 : Nat) : Int) := by omega
      have e2 : ((r.early.length + i : Nat) : Int) = (r.early.length : Int) + (i : Nat) := by omega
      rw [e, e2, nth_late ho (by omega), nth_late ho (by omega)]
      have d := diffs_get (l := r.offs ++ (r.offs.take 1).map (· + r.len)) (i := i) (by rw [List.length_append, List.length_map, List.length_take]; omega)
      unfold RV.laps
      rw [List.getD_eq_getElem?_getD, d]
      show _ - _ = _
      omega
    have key : ∀ (m j : Nat), j < ((List.replicate m r.laps).flatten).length → ((List.replicate m r.laps).flatten).getD j 0 = r.nth ((r.early.length + j : Nat) + 1) - r.nth (r.early.length + j : Nat) := fun m => by
      induction m with
      | zero => intro j hj; simp at hj
      | succ m ih =>
        intro j hj
        rw [List.replicate_succ, List.flatten_cons] at hj ⊢
        by_cases cj : j < r.laps.length
        · rw [← one j (by rw [← laps_len]; exact cj)]
          simp only [List.getD_eq_getElem?_getD]
          rw [List.getElem?_append_left cj]
        · rw [List.length_append] at hj
          have hjm := ih (j - r.laps.length) (by omega)
          have ell := laps_len (r := r)
          have ea : ((r.early.length + j : Nat) : Int) + 1 = (((r.early.length + (j - r.laps.length) : Nat) : Int) + 1) + 1 * (r.offs.length : Int) := by omega
          have eb : ((r.early.length + j : Nat) : Int) = ((r.early.length + (j - r.laps.length) : Nat) : Int) + 1 * (r.offs.length : Int) := by omega
          rw [ea, eb, nth_rounds w ho (by omega) (by omega), nth_rounds w ho (by omega) (by omega)]
          simp only [List.getD_eq_getElem?_getD] at hjm ⊢
          rw [List.getElem?_append_right (by omega), hjm]
          omega
    rw [List.length_append, fl] at hk
    have := key m j (by omega)
    simp only [List.getD_eq_getElem?_getD] at this ⊢
    rw [List.getElem?_append_right (by omega), fl]
    have e : r.early.length + j - r.early.length = j := by omega
    rw [e, this]
end Tk
namespace TkL
open PySem PySem.Spec PySem.Calls PyProof.Rows L2 Tk
section
variable {K : PySem.W.Frag} {C : Addr} {H : Hp} {Q : VK} {E : XK} {a d : Addr} {r : RV} {t n : Int}
structure LS (K : PySem.W.Frag) (C d a : Addr) (r : RV) (H : Hp) : Prop where
  D : DAt d H
  R : RowAt K C H a r
theorem LS.ex {H' : Hp} (S : LS K C d a r H) (e : Ex H H') : LS K C d a r H' := ⟨S.D.ex e, S.R.ex e⟩
theorem LS.kp {H' : Hp} (S : LS K C d a r H) (k : Kp d H H') (D : DAt d H') : LS K C d a r H' := ⟨D, S.R.kp S.D k⟩
theorem RowAt.inst (R : RowAt K C H a r) : ∃ dx fs, H a = some (.ins C dx fs) := by
  obtain ⟨dx, p1, p2, p3, p4, I⟩ := R
  exact ⟨dx, _, I.ob⟩
theorem x_rcall (S : LS K C d a r H) (h0 : 0 ≤ t) (h1 : t ≤ 1000000000000000000) (h : ∀ H', LS K C d a r H' → Q (.int (r.count t)) H') : (∃ dx fs, H a = some (.ins C dx fs)) ∧ spCall K C [.ref a, .int t] H Q E :=
  ⟨S.R.inst, a, t, r, rfl, S.R, h0, h1, fun H' e => h H' (S.ex e)⟩
theorem x_rin (S : LS K C d a r H) (h0 : 0 ≤ t) (h1 : t ≤ 1000000000000000000) (h : Q (.bl (r.has t)) H) : rOwnIn C false (spContains K C) E (.int t) (.ref a) H Q := by
  obtain ⟨dx, fs, hi⟩ := S.R.inst
  refine ⟨a, dx, fs, rfl, hi, a, _, r, rfl, S.R, .inl ⟨t, rfl, _, rfl, ?_⟩⟩
  rw [decide_eq_true h0, decide_eq_true h1]
  exact h
theorem x_rnin (S : LS K C d a r H) (h0 : 0 ≤ t) (h1 : t ≤ 1000000000000000000) (h : Q (.bl (!r.has t)) H) : rOwnIn C true (spContains K C) E (.int t) (.ref a) H Q := by
  obtain ⟨dx, fs, hi⟩ := S.R.inst
  refine ⟨a, dx, fs, rfl, hi, a, _, r, rfl, S.R, .inl ⟨t, rfl, _, rfl, ?_⟩⟩
  rw [decide_eq_true h0, decide_eq_true h1]
  exact h
theorem x_rix (R : RowAt K C H a r) (h0 : 0 ≤ n) (h1 : n ≤ 1000000000000000000) (ho : r.offs ≠ []) (h : ∀ H', Ex H H' → Q (.int (r.nth n)) H') : rOwnIx C (spItem K C) E (.ref a) (.int n) H Q := by
  obtain ⟨dx, fs, hi⟩ := R.inst
  exact ⟨a, dx, fs, rfl, hi, a, n, r, rfl, R, h0, h1, .inr ho, h⟩
theorem x_rixS (S : LS K C d a r H) (h0 : 0 ≤ n) (h1 : n ≤ 1000000000000000000) (ho : r.offs ≠ []) (h : ∀ H', LS K C d a r H' → Q (.int (r.nth n)) H') : rOwnIx C (spItem K C) E (.ref a) (.int n) H Q := x_rix S.R h0 h1 ho fun H' e => h H' (S.ex e)
theorem x_inst {P : Addr → Addr → List (Str × V) → Prop} (R : RowAt K C H a r) (h : ∀ dx fs, H a = some (.ins C dx fs) → P a dx fs) : ∃ a' dx fs, V.ref a = .ref a' ∧ H a' = some (.ins C dx fs) ∧ P a' dx fs := by
  obtain ⟨dx, fs, hi⟩ := R.inst
  exact ⟨a, dx, fs, rfl, hi, h dx fs hi⟩
theorem x_no {c A B : Prop} [Decidable c] (h : ¬ c) (b : B) : if decide c = true then A else B := by rw [decide_eq_false h]; exact iteF b
theorem x_yesD {c A B : Prop} [Decidable c] (h : c) (b : A) : if decide c = true then A else B := by rw [decide_eq_true h]; exact iteT b
theorem x_same {x y : Int} {A B : Prop} (h : x = y) (b : B) : if (!decide (V.int x = V.int y)) = true then A else B := by rw [h, decide_eq_true rfl]; exact iteF b
theorem x_min {i j : Int} (h : Q (.int (if j < i then j else i)) H) : kMin2 [.int i, .int j] H Q := ⟨i, j, rfl, h⟩
theorem pow9 : ((10 : Int) ^ (9 : Int).toNat) = 1000000000 := by decide
theorem hNone {H : Hp} : Ex (fun _ => none) H := fun _ _ h => by cases h
end
end TkL


namespace TkL
open PySem PySem.Spec PySem.Calls PyProof.Rows L2 Tk
section
variable (K : PySem.W.Frag) (C : Addr)
def opB (x y z s t : Bool) : Bool := if s then (if t then x else y) else (t && z)
def lcmI (a b : Int) : Int := a / Int.gcd a b * b
def spTicksBefore : Sp := fun vs H Q _ => ∃ a e r, vs = [.ref a, .int e] ∧ RowAt K C H a r ∧ r.beg ≤ e ∧ e ≤ 300000 ∧ ∀ H' p l, Ex H H' → H p = none → H' p = some (.lst (zI l)) → l.Pairwise (· < ·) → (∀ t, t ∈ l ↔ r.has t = true ∧ t < e) → Q (.ref p) H'
def spCombined : Sp := fun vs H Q _ => ∃ a b r s x y z, vs = [.ref a, .ref b, .bl x, .bl y, .bl z] ∧ RowAt K C H a r ∧ RowAt K C H b s ∧ lcmI r.len s.len ≤ 20000 ∧ ∀ H' c q, Ex H H' → H c = none → RowAt K C H' c q → (∀ t, q.has t = opB x y z (r.has t) (s.has t)) → Q (.ref c) H'
def spAdd : Sp := fun vs H Q _ => ∃ a b r s, vs = [.ref a, .ref b] ∧ RowAt K C H a r ∧ RowAt K C H b s ∧ lcmI r.len s.len ≤ 20000 ∧ ∀ H' c q, Ex H H' → H c = none → RowAt K C H' c q → (∀ t, q.has t = (r.has t || s.has t)) → Q (.ref c) H'
def spAnd : Sp := fun vs H Q _ => ∃ a b r s, vs = [.ref a, .ref b] ∧ RowAt K C H a r ∧ RowAt K C H b s ∧ lcmI r.len s.len ≤ 20000 ∧ ∀ H' c q, Ex H H' → H c = none → RowAt K C H' c q → (∀ t, q.has t = (r.has t && s.has t)) → Q (.ref c) H'
def spSub : Sp := fun vs H Q _ => ∃ a b r s, vs = [.ref a, .ref b] ∧ RowAt K C H a r ∧ RowAt K C H b s ∧ lcmI r.len s.len ≤ 20000 ∧ ∀ H' c q, Ex H H' → H c = none → RowAt K C H' c q → (∀ t, q.has t = (r.has t && !s.has t)) → Q (.ref c) H'
def spShift : Sp := fun vs H Q _ => ∃ a h r, vs = [.ref a, .int h] ∧ RowAt K C H a r ∧ 0 ≤ h ∧ r.beg + h ≤ 100000 ∧ ∀ H' c q, Ex H H' → H c = none → RowAt K C H' c q → (∀ t, q.has t = r.has (t - h)) → Q (.ref c) H'
def spThin : Sp := fun vs H Q _ => ∃ a n r, vs = [.ref a, .int n] ∧ RowAt K C H a r ∧ 1 ≤ n ∧ n ≤ 20000 ∧ r.len * n ≤ 20000 ∧ ∀ H' c q, Ex H H' → H c = none → RowAt K C H' c q → (∀ t, q.has t = (r.has t && decide ((r.count t - 1) % n = 0))) → Q (.ref c) H'
def sepN (l : List Int) : List Str := l.map fun n => (" " : Str) ++ numS n
def catS (l : List Str) : Str := l.foldl (· ++ ·) Str.empty
def rowText (r : RV) : Str := if r.early.length + r.offs.length = 0 then "never" else
  (numS (if 0 < r.early.length then r.early.getD 0 0 else r.beg + r.offs.getD 0 0) ++ catS (sepN r.flaps)) ++ (if 0 < r.offs.length then (" |" : Str) ++ catS (sepN r.laps) else Str.empty)
def spText : Sp := fun vs H Q _ => ∃ a r, vs = [.ref a] ∧ RowAt K C H a r ∧ ∀ H', Ex H H' → Q (.str (rowText r)) H'
def fitsB (r s : RV) (h : Int) : Prop := ∀ t, r.has t = true → s.has (t + h) = true
def spFits : Sp := fun vs H Q _ => ∃ a b r s h, vs = [.ref a, .ref b, .int h] ∧ RowAt K C H a r ∧ RowAt K C H b s ∧ 0 ≤ h ∧ h ≤ 1000000 ∧ ∀ H' c, Ex H H' → (c = true ↔ fitsB r s h) → Q (.bl c) H'
def spWithin : Sp := fun vs H Q _ => ∃ a b r s, vs = [.ref a, .ref b] ∧ RowAt K C H a r ∧ RowAt K C H b s ∧ ∀ H' c, Ex H H' → (c = true ↔ fitsB r s 0) → Q (.bl c) H'
end
end TkL



namespace TkL
open PySem PySem.Spec PySem.Calls PyProof.Rows L2 Tk
section
variable (K : PySem.W.Frag) (C : Addr)
def tPcommon_divisor : TS := (tSeq (tWhile (tTest (tOp (rI0 fun i j => V.bl (decide (j < i))) (tVar 1) (tC (.int 0)))) (tPar 0 1 (tCons (tVar 1) (tCons (tOp (rI (fun _ j => 0 < j) fun i j => V.int (i % j)) (tVar 0) (tVar 1)) tNil))))
    (tRet (tVar 0)))
def tRticks_before : TS := (tSeq (tAsg (tCB (kList K) (tCons (tFld K (tVar 0) "early") tNil)) (gName 2))
    (tSeq (tIfS (tTest (tOp (rNeD K) (tFld K (tVar 0) "offsets") (tTup tNil))) (tFor (iRng3 (tCons (tFld K (tVar 0) "begin") (tCons (tVar 1) (tCons (tFld K (tVar 0) "length") tNil)))) (gName 3) (tDrop (tBM K "list" rExtend (tVar 2) (tCons (tLc (iTup K (tFld K (tVar 0) "offsets")) (gName 4) (tTest (tOp (rI0 fun i j => V.bl (decide (i < j))) (tOp (rI0 fun i j => V.int (i + j)) (tVar 3) (tVar 4)) (tVar 1))) (tOp (rI0 fun i j => V.int (i + j)) (tVar 3) (tVar 4)) [4]) tNil)))) tNext)
    (tRet (tVar 2))))
def tPcombined : TS := (tSeq (tAsg (tOp (rI CMul fun i j => V.int (i * j)) (tOp (rI CDiv fun i j => V.int (i / j)) (tFld K (tVar 0) "length") (tDef (spGcd) E0 (tCons (tFld K (tVar 0) "length") (tCons (tFld K (tVar 1) "length") tNil)))) (tFld K (tVar 1) "length")) (gName 5))
    (tSeq (tIfS (tTest (tOp (rI0 fun i j => V.bl (decide (j < i))) (tVar 5) (tC (.int 20000)))) tNever tNext)
    (tSeq (tAsg (tIf (tTest (tOp (rI0 fun i j => V.bl (decide (j < i))) (tFld K (tVar 0) "begin") (tFld K (tVar 1) "begin"))) (tFld K (tVar 0) "begin") (tFld K (tVar 1) "begin")) (gName 6))
    (tSeq (tAsg (tOp (rI0 fun i j => V.int (i + j)) (tVar 6) (tVar 5)) (gName 7))
    (tSeq (tAsg (tDc (iList K (tMet C "ticks_before" (spTicksBefore K C) E0 (tVar 0) (tCons (tVar 7) tNil))) (gName 13) tYes (tVar 13) (tC (.bl true)) [13]) (gName 8))
    (tSeq (tAsg (tDc (iList K (tMet C "ticks_before" (spTicksBefore K C) E0 (tVar 1) (tCons (tVar 7) tNil))) (gName 13) tYes (tVar 13) (tC (.bl true)) [13]) (gName 9))
    (tSeq (tLock (tAsg (tLc (iKeys (tVar 8)) (gName 13) (tB (tIf (tB (tDIn (tVar 13) (tVar 9))) (tVar 2) (tVar 3))) (tVar 13) [13]) (gName 10)))
    (tSeq (tAsg (tOp rCat (tVar 10) (tLockE (tLc (iKeys (tVar 9)) (gName 13) (tAnd (tB (tVar 4)) (tB (tDNotIn (tVar 13) (tVar 8)))) (tVar 13) [13]))) (gName 10))
    (tSeq (tAsg (tCB (rSortedI K) (tCons (tLc (iList K (tVar 10)) (gName 13) tYes (tCB kInt (tCons (tVar 13) tNil)) [13]) tNil)) (gName 11))
    (tSeq (tAsg (tLc (iList K (tVar 11)) (gName 13) (tTest (tOp (rI0 fun i j => V.bl (decide (j ≤ i))) (tVar 13) (tVar 6))) (tOp (rI0 fun i j => V.int (i - j)) (tVar 13) (tVar 6)) [13]) (gName 12))
    (tRet (tDef (spNormal K C) E0 (tCons (tLc (iList K (tVar 11)) (gName 13) (tTest (tOp (rI0 fun i j => V.bl (decide (i < j))) (tVar 13) (tVar 6))) (tVar 13) [13]) (tCons (tVar 6) (tCons (tVar 5) (tCons (tVar 12) tNil))))))))))))))))
def tRadd : TS := (tRet (tDef (spCombined K C) E0 (tCons (tVar 0) (tCons (tVar 1) (tCons (tC (.bl true)) (tCons (tC (.bl true)) (tCons (tC (.bl true)) tNil)))))))
def tRand : TS := (tRet (tDef (spCombined K C) E0 (tCons (tVar 0) (tCons (tVar 1) (tCons (tC (.bl true)) (tCons (tC (.bl false)) (tCons (tC (.bl false)) tNil)))))))
def tRsub : TS := (tRet (tDef (spCombined K C) E0 (tCons (tVar 0) (tCons (tVar 1) (tCons (tC (.bl false)) (tCons (tC (.bl true)) (tCons (tC (.bl false)) tNil)))))))
def tRrshift : TS := (tSeq (tIfS (tNot (tB (tDef (spIii) E0 (tCons (tVar 1) (tCons (tC (.int 0)) (tCons (tC (.int 100000)) tNil)))))) tNever tNext)
    (tSeq (tIfS (tTest (tOp (rI0 fun i j => V.bl (decide (j < i))) (tOp (rI0 fun i j => V.int (i + j)) (tFld K (tVar 0) "begin") (tVar 1)) (tC (.int 100000)))) tNever tNext)
    (tSeq (tAsg (tLc (iTup K (tFld K (tVar 0) "early")) (gName 3) tYes (tOp (rI0 fun i j => V.int (i + j)) (tVar 3) (tVar 1)) [3]) (gName 2))
    (tRet (tDef (spNormal K C) E0 (tCons (tVar 2) (tCons (tOp (rI0 fun i j => V.int (i + j)) (tFld K (tVar 0) "begin") (tVar 1)) (tCons (tFld K (tVar 0) "length") (tCons (tFld K (tVar 0) "offsets") tNil)))))))))
def tRmul : TS := (tSeq (tIfS (tNot (tB (tDef (spIii) E0 (tCons (tVar 1) (tCons (tC (.int 1)) (tCons (tC (.int 20000)) tNil)))))) tNever tNext)
    (tSeq (tAsg (tOp (rI CMul fun i j => V.int (i * j)) (tCB kInt (tCons (tFld K (tVar 0) "length") tNil)) (tCB kInt (tCons (tVar 1) tNil))) (gName 2))
    (tSeq (tIfS (tTest (tOp (rI0 fun i j => V.bl (decide (j < i))) (tVar 2) (tC (.int 20000)))) tNever tNext)
    (tSeq (tAsg (tLc (iEnumA K (tCons (tFld K (tVar 0) "early") tNil)) (gTup K 2 (gCons (gName 8) (gCons (gName 7) gNil))) (tTest (tOp rEq (tOp (rI (fun _ j => 0 < j) fun i j => V.int (i % j)) (tVar 8) (tCB kInt (tCons (tVar 1) tNil))) (tC (.int 0)))) (tVar 7) [8, 7]) (gName 3))
    (tSeq (tAsg (tLst tNil) (gName 4))
    (tSeq (tFor (iRng3 (tCons (tC (.int 0)) (tCons (tVar 2) (tCons (tFld K (tVar 0) "length") tNil)))) (gName 5) (tDrop (tBM K "list" rExtend (tVar 4) (tCons (tLc (iTup K (tFld K (tVar 0) "offsets")) (gName 9) tYes (tOp (rI0 fun i j => V.int (i + j)) (tVar 5) (tVar 9)) [9]) tNil))))
    (tSeq (tAsg (tLc (iEnumA K (tCons (tVar 4) tNil)) (gTup K 2 (gCons (gName 8) (gCons (gName 7) gNil))) (tTest (tOp rEq (tOp (rI (fun _ j => 0 < j) fun i j => V.int (i % j)) (tOp (rI0 fun i j => V.int (i + j)) (tVar 8) (tCB (kLen K) (tCons (tFld K (tVar 0) "early") tNil))) (tCB kInt (tCons (tVar 1) tNil))) (tC (.int 0)))) (tVar 7) [8, 7]) (gName 6))
    (tRet (tDef (spNormal K C) E0 (tCons (tVar 3) (tCons (tFld K (tVar 0) "begin") (tCons (tVar 2) (tCons (tVar 6) tNil)))))))))))))
def tRtext : TS := (tSeq (tIfS (tTest (tOp rEq (tOp (rI0 fun i j => V.int (i + j)) (tCB (kLen K) (tCons (tFld K (tVar 0) "early") tNil)) (tCB (kLen K) (tCons (tFld K (tVar 0) "offsets") tNil))) (tC (.int 0)))) (tRet (tC (.str "never"))) tNext)
    (tSeq (tAsg (tIf (tTest (tOp (rI0 fun i j => V.bl (decide (j < i))) (tCB (kLen K) (tCons (tFld K (tVar 0) "early") tNil)) (tC (.int 0)))) (tOp (rIxT K) (tFld K (tVar 0) "early") (tC (.int 0))) (tOp (rI0 fun i j => V.int (i + j)) (tFld K (tVar 0) "begin") (tOp (rIxT K) (tFld K (tVar 0) "offsets") (tC (.int 0))))) (gName 1))
    (tSeq (tAsg (tFmt (tVar 1)) (gName 2))
    (tSeq (tFor (iTup K (tPrp C (spFlaps K C) E0 (tVar 0))) (gName 3) (tAsg (tJoin [(tFmt (tVar 2)), (tC (.str " ")), (tFmt (tVar 3))]) (gName 2)))
    (tSeq (tIfS (tTest (tOp (rI0 fun i j => V.bl (decide (j < i))) (tCB (kLen K) (tCons (tFld K (tVar 0) "offsets") tNil)) (tC (.int 0)))) (tSeq (tAsg (tJoin [(tFmt (tVar 2)), (tC (.str " |"))]) (gName 2))
    (tFor (iTup K (tPrp C (spLaps K C) E0 (tVar 0))) (gName 3) (tAsg (tJoin [(tFmt (tVar 2)), (tC (.str " ")), (tFmt (tVar 3))]) (gName 2)))) tNext)
    (tRet (tVar 2)))))))
def tPfits : TS := (tSeq (tIfS (tNot (tB (tCB (rAll K) (tCons (tLc (iTup K (tFld K (tVar 0) "early")) (gName 6) tYes (tMet C "holds" (spHolds K C) E0 (tVar 1) (tCons (tOp (rI0 fun i j => V.int (i + j)) (tVar 6) (tVar 2)) tNil)) [6]) tNil)))) (tRet (tC (.bl false))) tNext)
    (tSeq (tAsg (tDef (spGcd) E0 (tCons (tFld K (tVar 0) "length") (tCons (tFld K (tVar 1) "length") tNil))) (gName 3))
    (tSeq (tAsg (tOp (rI CDiv fun i j => V.int (i / j)) (tFld K (tVar 1) "length") (tVar 3)) (gName 4))
    (tSeq (tFor (iTup K (tFld K (tVar 0) "offsets")) (gName 5) (tSeq (tAsg (tOp (rI0 fun i j => V.int (i + j)) (tOp (rI0 fun i j => V.int (i + j)) (tFld K (tVar 0) "begin") (tVar 5)) (tVar 2)) (gName 6))
    (tSeq (tAsg (tC (.int 0)) (gName 7))
    (tWhile (tOr (tTest (tOp (rI0 fun i j => V.bl (decide (i < j))) (tVar 7) (tVar 4))) (tTest (tOp (rI0 fun i j => V.bl (decide (i < j))) (tVar 6) (tFld K (tVar 1) "begin")))) (tSeq (tIfS (tNot (tB (tMet C "holds" (spHolds K C) E0 (tVar 1) (tCons (tVar 6) tNil)))) (tRet (tC (.bl false))) tNext)
    (tSeq (tAug 7 (tCB kInt (tCons (tOp (rI0 fun i j => V.bl (decide (j ≤ i))) (tVar 6) (tFld K (tVar 1) "begin")) tNil)) (ipI fun i j => i + j))
    (tAug 6 (tFld K (tVar 0) "length") (ipI fun i j => i + j))))))))
    (tRet (tC (.bl true)))))))
def tPis_within : TS := (tRet (tDef (spFits K C) E0 (tCons (tVar 0) (tCons (tVar 1) (tCons (tC (.int 0)) tNil)))))
end
end TkL


namespace TkL
open PySem PySem.Spec PySem.Calls PyProof.Rows L2 Tk
theorem rgc_pos {i j c : Int} (h0 : 0 < c) (h1 : c < 1073741824) (hi : -(2 ^ 40) ≤ i) (hi' : i < 2 ^ 40) (hj : -(2 ^ 40) ≤ j) (hj' : j < 2 ^ 40) : RgC i j c (if i < j then (j - i - 1) / c + 1 else 0).toNat := by
  refine ⟨by omega, by omega, ?_, ?_⟩
  · unfold Builtin.Range.small Builtin.Range.rangeSize
    have hq : i < j → 0 ≤ (j - i - 1) / c ∧ (j - i - 1) / c ≤ j - i - 1 := fun h => by
      refine ⟨Int.ediv_nonneg (by omega) (by omega), ?_⟩
      have := Int.ediv_le_self c (show 0 ≤ j - i - 1 by omega)
      exact this
    have hm : i < j → ((j - i - 1) / c) * c ≤ j - i - 1 := fun h => by
      have e := Int.mul_ediv_add_emod (j - i - 1) c
      have := Int.emod_nonneg (j - i - 1) (show c ≠ 0 by omega)
      rw [Int.mul_comm]; omega
    have hm0 : i < j → 0 ≤ ((j - i - 1) / c) * c := fun h => Int.mul_nonneg (hq h).1 (by omega)
    generalize (j - i - 1) / c = q at *
    simp only [Builtin.Range.rangeFitsLong, Bool.and_eq_true, Bool.or_eq_true, decide_eq_true_eq, beq_iff_eq, if_pos h0, Int.add_mul]
    have hqc : i < j → (q + 1) * c = q * c + c := fun _ => by rw [Int.add_mul]; omega
    generalize q * c = y at *
    split <;> omega
  · unfold Builtin.Range.rangeSize
    have : 0 ≤ (if i < j then (j - i - 1) / c + 1 else 0 : Int) := by
      split
      · have := Int.ediv_nonneg (a := j - i - 1) (b := c) (by omega) (by omega); omega
      · omega
    rw [if_pos h0]
    omega
section
variable {K : PySem.W.Frag} {C : Addr}
theorem gcd_rec {a b : Int} (ha : 0 ≤ a) (hb : 0 < b) : Int.gcd b (a % b) = Int.gcd a b := by
  obtain ⟨m, rfl⟩ : ∃ m : Nat, a = m := ⟨a.toNat, by omega⟩
  obtain ⟨n, rfl⟩ : ∃ n : Nat, b = n := ⟨b.toNat, by omega⟩
  show Nat.gcd n ((m : Int) % (n : Int)).natAbs = Nat.gcd m n
  have e : ((m : Int) % (n : Int)).natAbs = m % n := by rw [← Int.natCast_emod]; rfl
  rw [e, Nat.gcd_comm n (m % n), Nat.gcd_comm m n]
  exact (Nat.gcd_rec n m).symm
theorem rdPcommon_divisor (T : TyF K C) (vs : List V) (H : Hp) (Q : VK) (E : XK) (h : spGcd vs H Q E) : tPcommon_divisor { nx := fun _ H' => Q .non H', rt := Q } (start ["one", "other"] vs) H := by
  obtain ⟨a, b, rfl, a0, b0, a1, b1, h⟩ := h
  unfold tPcommon_divisor
  walk_at "rd"
  refine x_while (fun m σ H' => ∃ x y : Int, σ = [some (.int x), some (.int y)] ∧ H' = H ∧ m = y.toNat ∧ 0 < x ∧ 0 ≤ y ∧ Int.gcd x y = Int.gcd a b) b.toNat ⟨a, b, rfl, rfl, rfl, a0, b0, rfl⟩ ?_
  rintro m σ H' ⟨x, y, rfl, rfl, rfl, x0, y0, hg⟩
  walk_at "rd"
  refine x_iteD (fun c => ?_) (fun c => ?_)
  · refine x_whN ?_
    walk_at "rd"
    refine x_rI (by omega) ?_
    walk_at "rd"
    have r0 := Int.emod_nonneg x (show y ≠ 0 by omega)
    have r1 := Int.emod_lt_of_pos x c
    exact ⟨_, by omega, y, x % y, rfl, rfl, rfl, c, r0, by rw [gcd_rec (by omega) c]; exact hg⟩
  · have hy : y = 0 := by omega
    subst hy
    walk_at "rd"
    have : (x : Int) = (Int.gcd a b : Int) := by
      rw [← hg]
      simp [Int.gcd]
      omega
    rw [← this] at h
    exact h
end
end TkL


namespace TkL
open PySem PySem.Spec PySem.Calls PyProof.Rows L2 Tk
section
variable {K : PySem.W.Frag} {C : Addr} {H : Hp} {Q : VK}
theorem x_irng3 {ta : TA} {σ : L2.St} {R : It → Hp → Prop} (h : ta σ H fun vs H1 => ∃ i j c n, vs = [.int i, .int j, .int c] ∧ RgC i j c n ∧ R (Itc i c n) H1) : iRng3 ta σ H R := h
theorem x_extR {L b : Addr} {l m : List Int} (hl : H L = some (.lst (zI l))) (hb : H b = some (.lst (zI m))) (hz : l.length + m.length ≤ 1000000) (h : Q .non (upd H L (.lst (zI (l ++ m))))) : rExtend (.ref L) [.ref b] H Q :=
  ⟨L, b, _, _, rfl, rfl, hl, hb, by rw [zI_len, zI_len]; exact sz_of hz, by rw [zI_app]; exact h⟩
theorem rdRticks_before (T : TyF K C) (vs : List V) (H : Hp) (Q : VK) (E : XK) (h : spTicksBefore K C vs H Q E) : tRticks_before K { nx := fun _ H' => Q .non H', rt := Q } (start ["self", "end", "found", "start", "offset"] vs) H := by
  obtain ⟨a, e, r, rfl, ⟨dx, p1, p2, p3, p4, I⟩, hbe, he, h⟩ := h
  have w := I.rb.c.wf
  have b0 := w.b0
  have l1 := w.l1
  have lb := I.rb.lb
  unfold tRticks_before
  walk_at "rd"
  refine fl_early T I ?_
  walk_at "rd"
  refine x_listT (.inr I.e) fun L H1 e1 hL hl1 => ?_
  have I1 := I.ex e1
  walk_at "rd"
  refine fl_offsets T I1 ?_
  walk_at "rd"
  intro p H2 e2 hp ht
  have I2 := I1.ex e2
  have hl2 := e2 _ _ hl1
  have e12 := e1.trans e2
  refine x_neT (l := r.offs) (m := []) I2.o (tOf ht) ?_
  walk_at "rd"
  by_cases c : r.offs = []
  · rw [decide_eq_true c]
    refine iteF ?_
    walk_at "rd"
    refine h H2 L r.early e12 hL hl2 w.es fun t => ?_
    constructor
    · intro hm
      have := w.er t hm
      exact ⟨by rw [RV.has_lo this.2]; exact decide_eq_true hm, by omega⟩
    · rintro ⟨hh, _⟩
      rcases Int.lt_or_le t r.beg with z | z
      · rw [RV.has_lo z] at hh; exact of_decide_eq_true hh
      · rw [RV.has_hi z, c] at hh; simp at hh
  · rw [decide_eq_false c]
    refine iteT ?_
    walk_at "rd"
    refine x_for (x_irng3 ?_)
    walk_at "rd"
    refine fl_begin T I2 ?_
    walk_at "rd"
    refine fl_length T I2 ?_
    walk_at "rd"
    refine ⟨_, _, _, _, rfl, rgc_pos (by omega) (by omega) (by omega) (by have := I.rb.bb; omega) (by omega) (by omega), ?_⟩
    obtain ⟨n, en, hn⟩ : ∃ n : Nat, (if r.beg < e then (e - r.beg - 1) / r.len + 1 else 0).toNat = n ∧ e ≤ r.beg + (n : Int) * r.len := by
      refine ⟨_, rfl, ?_⟩
      by_cases cc : r.beg < e
      · rw [if_pos cc]
        have q0 : 0 ≤ (e - r.beg - 1) / r.len := Int.ediv_nonneg (by omega) (by omega)
        have e3 := Int.mul_ediv_add_emod (e - r.beg - 1) r.len
        have e4 := Int.emod_lt_of_pos (e - r.beg - 1) (show 0 < r.len by omega)
        rw [Int.toNat_of_nonneg (by omega), Int.add_mul, Int.mul_comm]
        omega
      · rw [if_neg cc]; simp; omega
    rw [en]
    refine for_wk (H0 := H) (Wk.rngc (lo := r.beg) (c := r.len)) (fun i σ H' => ∃ u l, σ = [some (.ref a), some (.int e), some (.ref L), u, none] ∧ Ex H H' ∧ H' L = some (.lst (zI l)) ∧ l.Pairwise (· < ·) ∧ ∀ t, t ∈ l ↔ r.has t = true ∧ t < r.beg + (i : Int) * r.len ∧ t < e)
      ⟨_, r.early, rfl, e12, hl2, w.es, fun t => ?_⟩ (fun i σ H' ⟨_, _, _, e, _⟩ => e) ?_ ?_
    · simp only [Int.natCast_zero, Int.zero_mul, Int.add_zero]
      constructor
      · intro hm
        have := w.er t hm
        exact ⟨by rw [RV.has_lo this.2]; exact decide_eq_true hm, this.2, by omega⟩
      · rintro ⟨hh, z, _⟩
        rw [RV.has_lo z] at hh; exact of_decide_eq_true hh
    · rintro i x σ H3 hx ⟨u, l, rfl, e3, hl3, ls, lm⟩
      have hi := lt_of_get hx
      rw [rngC_length] at hi
      rw [rngC_get hi] at hx
      cases hx
      have I3 := I.ex e3
      have il : 0 ≤ (i : Int) * r.len := Int.mul_nonneg (by omega) (by omega)
      have lr : ∀ x ∈ l, 0 ≤ x ∧ x < e := fun x hx => by
        have q := (lm x).mp hx
        refine ⟨?_, q.2.2⟩
        rcases Int.lt_or_le x 0 with z | z
        · rw [show r.has x = false from qhas_neg w z] at q; cases q.1
        · exact z
      have ll := len_of_range ls lr (by omega)
      walk_at "rd"
      refine x_ty hl3 ?_
      walk_at "rd"
      refine x_lc (x_itup ?_)
      walk_at "rd"
      refine fl_offsets T I3 ?_
      walk_at "rd"
      refine ⟨⟨_, I3.o⟩, ?_⟩
      refine lcfI (Wk.tup I3.o) (fun o => decide (r.beg + (i : Int) * r.len + o < e)) (fun o => .int (r.beg + (i : Int) * r.len + o)) (by have := I.rb.ol2; omega) (fun o H' Qb _ e q => ?_) (fun o H' Qv _ _ e q => ?_) (fun D H4 e4 hD hl4 => ?_)
      · walk_at "rd"; exact q
      · walk_at "rd"; exact q
      rw [map_int] at hl4
      have hfl : (r.offs.filter fun o => decide (r.beg + (i : Int) * r.len + o < e)).length ≤ 20000 := by have := List.length_filter_le (fun o => decide (r.beg + (i : Int) * r.len + o < e)) r.offs; have := I.rb.ol2; omega
      refine x_nil ?_
      refine x_extR (e4 _ _ hl3) hl4 (by rw [List.length_map]; omega) ?_
      have ei : r.beg + ((i + 1 : Nat) : Int) * r.len = r.beg + (i : Int) * r.len + r.len := by
        have : ((i + 1 : Nat) : Int) = (i : Int) + 1 := by omega
        rw [this, Int.add_mul]; omega
      refine ⟨_, _, rfl, (e3.trans e4).mut hL, upd_same, ?_, fun t => ?_⟩
      · rw [List.pairwise_append]
        refine ⟨ls, ?_, fun x hx y hy => ?_⟩
        · rw [List.pairwise_map]
          exact (w.os.sublist List.filter_sublist).imp fun h => by omega
        · obtain ⟨o, ho, rfl⟩ := List.mem_map.mp hy
          have h1 := ((lm x).mp hx).2.1
          have h2 := (w.ow o (List.mem_filter.mp ho).1).1
          omega
      · rw [List.mem_append, lm, List.mem_map, ei]
        constructor
        · rintro (⟨h1, h2, h3⟩ | ⟨o, ho, rfl⟩)
          · exact ⟨h1, by omega, h3⟩
          · have ho1 := (List.mem_filter.mp ho).1
            have ho2 := of_decide_eq_true (List.mem_filter.mp ho).2
            have hr := w.ow o ho1
            refine ⟨?_, by omega, ho2⟩
            rw [RV.has_hi (by omega)]
            have d := div_unique (u := r.beg + (i : Int) * r.len + o - r.beg) (q := i) hr.1 hr.2 (by omega)
            rw [d.2]
            exact decide_eq_true ho1
        · rintro ⟨h1, h2, h3⟩
          rcases Int.lt_or_le t (r.beg + (i : Int) * r.len) with z | z
          · exact .inl ⟨h1, z, h3⟩
          · refine .inr ⟨t - (r.beg + (i : Int) * r.len), List.mem_filter.mpr ⟨?_, decide_eq_true (by omega)⟩, by omega⟩
            rw [RV.has_hi (by omega)] at h1
            have d := div_unique (u := t - r.beg) (q := i) (s := t - (r.beg + (i : Int) * r.len)) (l := r.len) (by omega) (by omega) (by omega)
            rw [d.2] at h1
            exact of_decide_eq_true h1
    · rintro σ H3 ⟨u, l, rfl, e3, hl3, ls, lm⟩
      rw [rngC_length] at lm
      walk_at "rd"
      refine h H3 L l e3 hL hl3 ls fun t => ?_
      rw [lm]
      constructor
      · rintro ⟨h1, _, h3⟩; exact ⟨h1, h3⟩
      · rintro ⟨h1, h3⟩; exact ⟨h1, by omega, h3⟩
theorem rdRadd (T : TyF K C) (vs : List V) (H : Hp) (Q : VK) (E : XK) (h : spAdd K C vs H Q E) : tRadd K C { nx := fun _ H' => Q .non H', rt := Q } (start ["self", "other"] vs) H := by
  obtain ⟨a, b, r, s, rfl, R, S, hl, h⟩ := h
  unfold tRadd
  walk_at "rd"
  exact ⟨a, b, r, s, true, true, true, rfl, R, S, hl, fun H' c q e hc Rq hq => h H' c q e hc Rq fun t => by rw [hq]; unfold opB; cases r.has t <;> cases s.has t <;> rfl⟩
theorem rdRand (T : TyF K C) (vs : List V) (H : Hp) (Q : VK) (E : XK) (h : spAnd K C vs H Q E) : tRand K C { nx := fun _ H' => Q .non H', rt := Q } (start ["self", "other"] vs) H := by
  obtain ⟨a, b, r, s, rfl, R, S, hl, h⟩ := h
  unfold tRand
  walk_at "rd"
  exact ⟨a, b, r, s, true, false, false, rfl, R, S, hl, fun H' c q e hc Rq hq => h H' c q e hc Rq fun t => by rw [hq]; unfold opB; cases r.has t <;> cases s.has t <;> rfl⟩
theorem rdRsub (T : TyF K C) (vs : List V) (H : Hp) (Q : VK) (E : XK) (h : spSub K C vs H Q E) : tRsub K C { nx := fun _ H' => Q .non H', rt := Q } (start ["self", "other"] vs) H := by
  obtain ⟨a, b, r, s, rfl, R, S, hl, h⟩ := h
  unfold tRsub
  walk_at "rd"
  exact ⟨a, b, r, s, false, true, false, rfl, R, S, hl, fun H' c q e hc Rq hq => h H' c q e hc Rq fun t => by rw [hq]; unfold opB; cases r.has t <;> cases s.has t <;> rfl⟩
theorem rdRrshift (T : TyF K C) (vs : List V) (H : Hp) (Q : VK) (E : XK) (h : spShift K C vs H Q E) : tRrshift K C { nx := fun _ H' => Q .non H', rt := Q } (start ["self", "handicap", "early", "tick"] vs) H := by
  obtain ⟨a, g, r, rfl, ⟨dx, p1, p2, p3, p4, I⟩, h0, hb, h⟩ := h
  have w := I.rb.c.wf
  have b0 := w.b0
  unfold tRrshift
  walk_at "rd"
  refine ⟨_, _, _, rfl, .inl ⟨g, rfl, ?_⟩⟩
  rw [decide_eq_true h0, decide_eq_true (show g ≤ 100000 by omega)]
  walk_at "rd"
  refine iteF ?_
  walk_at "rd"
  refine fl_begin T I ?_
  walk_at "rd"
  refine x_no (by omega) ?_
  walk_at "rd"
  refine x_lc (x_itup ?_)
  walk_at "rd"
  refine fl_early T I ?_
  walk_at "rd"
  refine ⟨⟨_, I.e⟩, ?_⟩
  refine lcfI (Wk.tup I.e) (fun _ => true) (fun t => .int (t + g)) (by have := I.rb.el2; omega) (fun n H' Qb _ e q => q) (fun n H' Qv _ _ e q => ?_) (fun D H1 e1 hD hl1 => ?_)
  · walk_at "rd"; exact q
  rw [List.filter_eq_self.mpr (fun _ _ => rfl), map_int] at hl1
  have I1 := I.ex e1
  walk_at "rd"
  refine fl_begin T I1 ?_
  walk_at "rd"
  refine fl_length T I1 ?_
  walk_at "rd"
  refine fl_offsets T I1 ?_
  walk_at "rd"
  refine ⟨D, p2, _, _, _, r.offs, rfl, lOf hl1, .inr I1.o, ⟨?_, fun x hx => ?_, by omega, w.l1, w.os, w.ow⟩, by omega, I.rb.lb, fun H2 c q e2 hc R hq => ?_⟩
  · rw [List.pairwise_map]
    exact w.es.imp fun h => by omega
  · obtain ⟨y, hy, rfl⟩ := List.mem_map.mp hx
    have := w.er y hy
    omega
  · refine h H2 c q (e1.trans e2) (e1.back hc) R fun t => ?_
    rw [hq]
    rcases Int.lt_or_le t (r.beg + g) with z | z
    · rw [qhas_lo z, RV.has_lo (by omega), Bool.eq_iff_iff, decide_eq_true_iff, decide_eq_true_iff, List.mem_map]
      constructor
      · rintro ⟨y, hy, rfl⟩
        have e : y + g - g = y := by omega
        rw [e]; exact hy
      · intro hm; exact ⟨t - g, hm, by omega⟩
    · rw [qhas_hi z, RV.has_hi (by omega)]
      have e : t - (r.beg + g) = t - g - r.beg := by omega
      rw [e]
end
end TkL


namespace Tk
theorem lcm_facts {a b : Int} (ha : 1 ≤ a) (hb : 1 ≤ b) : 1 ≤ Int.gcd a b ∧ (Int.gcd a b : Int) ≤ a ∧ (Int.gcd a b : Int) ≤ b ∧ 1 ≤ a / Int.gcd a b ∧ 1 ≤ b / Int.gcd a b ∧ a / Int.gcd a b * b = a * (b / Int.gcd a b) := by
  have g0 : 1 ≤ Int.gcd a b := Nat.one_le_iff_ne_zero.mpr fun z => by
    have := (Int.gcd_eq_zero_iff.mp z).1
    omega
  have da : (Int.gcd a b : Int) ∣ a := Int.gcd_dvd_left ..
  have db : (Int.gcd a b : Int) ∣ b := Int.gcd_dvd_right ..
  generalize hg : (Int.gcd a b : Int) = g at *
  have g1 : 1 ≤ g := by omega
  obtain ⟨x, rfl⟩ := da
  obtain ⟨y, rfl⟩ := db
  have hx : 1 ≤ x := by
    rcases Int.lt_or_le x 1 with z | z
    · have : g * x ≤ g * 0 := Int.mul_le_mul_of_nonneg_left (by omega) (by omega)
      omega
    · exact z
  have hy : 1 ≤ y := by
    rcases Int.lt_or_le y 1 with z | z
    · have : g * y ≤ g * 0 := Int.mul_le_mul_of_nonneg_left (by omega) (by omega)
      omega
    · exact z
  have e1 : g * x / g = x := Int.mul_ediv_cancel_left _ (by omega)
  have e2 : g * y / g = y := Int.mul_ediv_cancel_left _ (by omega)
  have m1 : g * 1 ≤ g * x := Int.mul_le_mul_of_nonneg_left hx (by omega)
  have m2 : g * 1 ≤ g * y := Int.mul_le_mul_of_nonneg_left hy (by omega)
  rw [e1, e2]
  exact ⟨g0, by omega, by omega, hx, hy, by rw [← Int.mul_assoc, Int.mul_comm x g]⟩
end Tk
namespace TkL
open PySem PySem.Spec PySem.Calls PyProof.Rows L2 Tk
section
variable {K : PySem.W.Frag} {C : Addr} {H : Hp} {Q : VK}
theorem x_dnotin {ty td : TE} {σ : L2.St} {t : Int} {p : Addr} {o : List Int} (hy : ∀ P : VK, P (.int t) H → ty σ H P) (hd : ∀ P : VK, P (.ref p) H → td σ H P) (hm : Rd H p (.dK (mkD o))) (h : Q (.bl (!decide (t ∈ o))) H) : tDNotIn ty td σ H Q :=
  hy _ (hd _ ⟨p, _, rfl, .inl ⟨_, Sum.inl t, hm, rfl, rfl⟩, by
    have e := mkD_has o t
    first
      | (show Q (.bl (!(valV (mkD o) (Sum.inl t)).isSome)) H; rw [e]; exact h)
      | (show Q (.bl ((valV (mkD o) (Sum.inl t)).isNone)) H
         have e2 : (valV (mkD o) (Sum.inl t)).isNone = !(valV (mkD o) (Sum.inl t)).isSome := by cases valV (mkD o) (Sum.inl t) <;> rfl
         rw [e2, e]; exact h)⟩)
theorem rdPcombined (T : TyF K C) (vs : List V) (H : Hp) (Q : VK) (E : XK) (h : spCombined K C vs H Q E) : tPcombined K C { nx := fun _ H' => Q .non H', rt := Q } (start ["one", "other", "in_both", "in_one", "in_other", "length", "begin", "end", "marks", "more", "kept", "ticks", "offsets", "tick"] vs) H := by
  obtain ⟨a, b, r, s, x, y, z, rfl, ⟨dx, p1, p2, p3, p4, I⟩, ⟨dy, q1, q2, q3, q4, J⟩, hL, h⟩ := h
  have w := I.rb.c.wf
  have v := J.rb.c.wf
  have lf := lcm_facts w.l1 v.l1
  have rl1 := w.l1
  have sl1 := v.l1
  have rlb := I.rb.lb
  have slb := J.rb.lb
  have rb0 := w.b0
  have sb0 := v.b0
  have rbb := I.rb.bb
  have sbb := J.rb.bb
  obtain ⟨L, eL⟩ : ∃ L, lcmI r.len s.len = L := ⟨_, rfl⟩
  have eL1 : L = s.len * (r.len / Int.gcd r.len s.len) := by rw [← eL]; unfold lcmI; rw [Int.mul_comm]
  have eL2 : L = r.len * (s.len / Int.gcd r.len s.len) := by rw [← eL]; unfold lcmI; exact lf.2.2.2.2.2
  have L1 : 1 ≤ L := by
    have : s.len * 1 ≤ s.len * (r.len / Int.gcd r.len s.len) := Int.mul_le_mul_of_nonneg_left lf.2.2.2.1 (by omega)
    omega
  have gb : (r.len / Int.gcd r.len s.len) ≤ r.len := Int.ediv_le_self _ (by omega)
  unfold tPcombined
  walk_at "rd"
  refine fl_length T I ?_
  walk_at "rd"
  refine fl_length T I ?_
  walk_at "rd"
  refine fl_length T J ?_
  walk_at "rd"
  refine ⟨_, _, rfl, by omega, by omega, by omega, by omega, ?_⟩
  refine x_rI ⟨by omega, by omega⟩ ?_
  walk_at "rd"
  refine fl_length T J ?_
  refine x_rI (.inr (by omega)) ?_
  walk_at "rd"
  rw [eL] at hL
  show if decide (20000 < lcmI r.len s.len) = true then _ else _
  rw [eL]
  refine x_no (by omega) ?_
  walk_at "rd"
  refine fl_begin T I ?_
  walk_at "rd"
  refine fl_begin T J ?_
  walk_at "rd"
  show if decide (s.beg < r.beg) = true then _ else _
  have hlc : r.len / ↑(r.len.gcd s.len) * s.len = L := eL
  rw [hlc]
  refine (fun (key : ∀ B : Int, r.beg ≤ B → s.beg ≤ B → B ≤ 200000 → gName 6 (V.int B) ?σ H ?N) => ?use) ?keyp
  case use =>
    refine x_iteD (fun c => ?_) (fun c => ?_)
    · refine x_fld ?_
      walk_at "rd"
      refine fl_begin T I ?_
      exact key r.beg (Int.le_refl _) (by omega) rbb
    · refine x_fld ?_
      walk_at "rd"
      refine fl_begin T J ?_
      exact key s.beg (by omega) (Int.le_refl _) sbb
  intro B k1 k2 k3
  have gk1 : 0 ≤ s.len / Int.gcd r.len s.len := by omega
  have gk2 : 0 ≤ r.len / Int.gcd r.len s.len := by omega
  clear lf gb hlc eL
  walk_at "rd"
  refine x_dc (x_ilist ?_)
  walk_at "rd"
  refine ⟨_, _, _, rfl, I.ob, rfl, ?_⟩
  walk_at "rd"
  refine ⟨a, _, r, rfl, ⟨dx, p1, p2, p3, p4, I⟩, by omega, by omega, fun H1 A1 l1 e1 hA1 h1 ls1 lm1 => ?_⟩
  have n1 : (l1.length : Int) ≤ B + L - 0 := len_of_range ls1 (fun x hx => by
    have q := (lm1 x).mp hx
    refine ⟨?_, q.2⟩
    rcases Int.lt_or_le x 0 with z | z
    · rw [show r.has x = false from qhas_neg w z] at q; cases q.1
    · exact z) (by omega)
  walk_at "rd"
  refine ⟨⟨_, lOf h1⟩, ?_⟩
  refine dcfI (Wk.list (lOf h1)) (fun n => n) (by omega) (fun n H' Qv _ e q => ?_) (fun n H' Qv _ e q => ?_) (fun D1 H2 e2 hD1 hm1 => ?_)
  · walk_at "rd"; exact q
  · walk_at "rd"; exact q
  rw [List.map_id'] at hm1
  have J2 := J.ex (e1.trans e2)
  walk_at "rd"
  refine x_dc (x_ilist ?_)
  walk_at "rd"
  refine ⟨_, _, _, rfl, J2.ob, rfl, ?_⟩
  walk_at "rd"
  refine ⟨b, _, s, rfl, ⟨dy, q1, q2, q3, q4, J2⟩, by omega, by omega, fun H3 A2 l2 e3 hA2 h3 ls2 lm2 => ?_⟩
  have n2 : (l2.length : Int) ≤ B + L - 0 := len_of_range ls2 (fun x hx => by
    have q := (lm2 x).mp hx
    refine ⟨?_, q.2⟩
    rcases Int.lt_or_le x 0 with z | z
    · rw [show s.has x = false from qhas_neg v z] at q; cases q.1
    · exact z) (by omega)
  walk_at "rd"
  refine ⟨⟨_, lOf h3⟩, ?_⟩
  refine dcfI (Wk.list (lOf h3)) (fun n => n) (by omega) (fun n H' Qv _ e q => ?_) (fun n H' Qv _ e q => ?_) (fun D2 H4 e4 hD2 hm2 => ?_)
  · walk_at "rd"; exact q
  · walk_at "rd"; exact q
  rw [List.map_id'] at hm2
  have hm14 : H4 D1 = some (.dK (mkD l1)) := (e3.trans e4) _ _ hm1
  have hDD : D1 ≠ D2 := fun z => by
    subst z
    rw [e3 _ _ hm1] at hD2; cases hD2
  have e14 := e1.trans (e2.trans (e3.trans e4))
  walk_at "rd"
  refine x_lock hm14 trivial fun od => ?_
  refine x_asg (x_lc (x_ikeys ?_))
  walk_at "rd"
  refine ⟨D1, od, rfl, .inl ⟨_, upd_same, ?_⟩⟩
  obtain ⟨zs, z1, z2, z3, z4⟩ := mkD_keys l1
  have W1 : Wk (Itk D1 od (mkD l1)) (upd H4 D1 (.frz od (.dK (mkD l1)))) (zI zs) := by
    have z := Wk.keys (upd_same (H := H4) (a := D1) (o := .frz od (.dK (mkD l1))))
    rw [z1] at z; exact z
  refine lcfI W1 (fun t => if t ∈ l2 then x else y) V.int (by omega) (fun t H' Qb _ e q => ?_) (fun t H' Qv _ _ e q => ?_) (fun F H5 e5 hF hl5 => ?_)
  · have hm2' : H' D2 = some (.dK (mkD l2)) := e _ _ (by rw [upd_ne hDD.symm]; exact hm2)
    refine x_B (x_if (x_B ?_))
    refine x_din (t := t) (p := D2) (o := l2) (fun P z => by walk_at "rd"; exact z) (fun P z => by walk_at "rd"; exact z) (.inl hm2') ?_
    by_cases ct : t ∈ l2
    · rw [decide_eq_true ct]
      rw [if_pos ct] at q
      refine ⟨_, rfl, iteT ?_⟩
      walk_at "rd"
      exact q
    · rw [decide_eq_false ct]
      rw [if_neg ct] at q
      refine ⟨_, rfl, iteF ?_⟩
      walk_at "rd"
      exact q
  · walk_at "rd"; exact q
  refine x_name ?_
  refine ⟨e5 _ _ upd_same, ?_⟩
  have e45 := unlock hm14 e5
  have hFD : F ≠ D1 := fun z => by subst z; rw [upd_same] at hF; cases hF
  have hl6 : (upd H5 D1 (.dK (mkD l1))) F = some (.lst (zI (zs.filter fun t => if t ∈ l2 then x else y))) := by rw [upd_ne hFD]; exact hl5
  generalize upd H5 D1 (.dK (mkD l1)) = H6 at e45 hl6
  dsimp only
  have hm16 := e45 _ _ hm14
  have hm26 := e45 _ _ hm2
  walk_at "rd"
  refine x_lockE hm26 trivial fun od2 => ?_
  refine x_lc (x_ikeys ?_)
  walk_at "rd"
  refine ⟨D2, od2, rfl, .inl ⟨_, upd_same, ?_⟩⟩
  obtain ⟨ws, w1, w2, w3, w4⟩ := mkD_keys l2
  have W2 : Wk (Itk D2 od2 (mkD l2)) (upd H6 D2 (.frz od2 (.dK (mkD l2)))) (zI ws) := by
    have z := Wk.keys (upd_same (H := H6) (a := D2) (o := .frz od2 (.dK (mkD l2))))
    rw [w1] at z; exact z
  refine lcfI W2 (fun t => z && !decide (t ∈ l1)) V.int (by omega) (fun t H' Qb _ e q => ?_) (fun t H' Qv _ _ e q => ?_) (fun G H7 e7 hG hl7 => ?_)
  · have hm1' : H' D1 = some (.dK (mkD l1)) := e _ _ (by rw [upd_ne hDD]; exact hm16)
    walk_at "rd"
    cases z with
    | false => exact iteF q
    | true =>
      refine iteT ?_
      refine x_B ?_
      refine x_dnotin (t := t) (p := D1) (o := l1) (fun P z => by walk_at "rd"; exact z) (fun P z => by walk_at "rd"; exact z) (.inl hm1') ?_
      exact ⟨_, rfl, q⟩
  · walk_at "rd"; exact q
  refine ⟨e7 _ _ upd_same, ?_⟩
  have e67 := unlock hm26 e7
  have hGD : G ≠ D2 := fun z => by subst z; rw [upd_same] at hG; cases hG
  have hl8 : (upd H7 D2 (.dK (mkD l2))) G = some (.lst (zI (ws.filter fun t => z && !decide (t ∈ l1)))) := by rw [upd_ne hGD]; exact hl7
  generalize upd H7 D2 (.dK (mkD l2)) = H8 at e67 hl8
  have f1 := List.length_filter_le (fun t => if t ∈ l2 then x else y) zs
  have f2 := List.length_filter_le (fun t => z && !decide (t ∈ l1)) ws
  refine x_cat (e67 _ _ hl6) hl8 (by omega) fun M H9 e9 hM h9 => ?_
  walk_at "rd"
  refine x_lc (x_ilist ?_)
  walk_at "rd"
  refine ⟨⟨_, lOf h9⟩, ?_⟩
  refine lcfI (Wk.list (lOf h9)) (fun _ => true) V.int (by rw [List.length_append]; omega) (fun t H' Qb _ e q => q) (fun t H' Qv _ _ e q => ?_) (fun M2 H10 e10 hM2 h10 => ?_)
  · walk_at "rd"; exact q
  rw [List.filter_eq_self.mpr (fun _ _ => rfl)] at h10
  walk_at "rd"
  refine x_sorted (lOf h10) fun ns N H11 e11 hN perm srt h11 => ?_
  walk_at "rd"
  have hmem : ∀ t, t ∈ ns ↔ opB x y z (r.has t) (s.has t) = true ∧ t < B + L := fun t => by
    rw [perm.mem_iff, List.mem_append, List.mem_filter, List.mem_filter, z3, w3]
    unfold opB
    by_cases ct : t < B + L
    · have m1 : decide (t ∈ l1) = r.has t := by
        rw [Bool.eq_iff_iff, decide_eq_true_iff, lm1]
        exact ⟨fun q => q.1, fun q => ⟨q, ct⟩⟩
      have m3 : (t ∈ l1) ↔ r.has t = true := by rw [lm1]; exact ⟨fun q => q.1, fun q => ⟨q, ct⟩⟩
      have m2 : (t ∈ l2) ↔ s.has t = true := by rw [lm2]; exact ⟨fun q => q.1, fun q => ⟨q, ct⟩⟩
      rw [m1]
      simp only [m2, m3, ct, and_true]
      cases r.has t <;> cases s.has t <;> cases x <;> cases y <;> cases z <;> simp
    · have m3 : ¬ t ∈ l1 := fun q => ct ((lm1 t).mp q).2
      have m2 : ¬ t ∈ l2 := fun q => ct ((lm2 t).mp q).2
      simp [ct, m2, m3]
  have hnd : ns.Nodup := by
    rw [perm.nodup_iff, List.nodup_append]
    refine ⟨z2.filter _, w2.filter _, fun t ht u hu e => ?_⟩
    subst e
    have h1 := (z3 t).mp (List.mem_filter.mp ht).1
    have h2 := (List.mem_filter.mp hu).2
    rw [decide_eq_true h1] at h2
    simp at h2
  have nst := strict srt hnd
  have nlen : ns.length ≤ 900000 := by rw [perm.length_eq, List.length_append]; omega
  refine x_lc (x_ilist ?_)
  walk_at "rd"
  refine ⟨⟨_, lOf h11⟩, ?_⟩
  refine lcfI (Wk.list (lOf h11)) (fun t => decide (B ≤ t)) (fun t => .int (t - B)) (by omega) (fun t H' Qb _ e q => ?_) (fun t H' Qv _ _ e q => ?_) (fun O H12 e12 hO h12 => ?_)
  · walk_at "rd"; exact q
  · walk_at "rd"; exact q
  rw [map_int] at h12
  walk_at "rd"
  refine x_lc (x_ilist ?_)
  walk_at "rd"
  have h11' := e12 _ _ h11
  refine ⟨⟨_, lOf h11'⟩, ?_⟩
  refine lcfI (Wk.list (lOf h11')) (fun t => decide (t < B)) V.int (by omega) (fun t H' Qb _ e q => ?_) (fun t H' Qv _ _ e q => ?_) (fun P H13 e13 hP h13 => ?_)
  · walk_at "rd"; exact q
  · walk_at "rd"; exact q
  walk_at "rd"
  have per : Per (fun t => opB x y z (r.has t) (s.has t)) B L := fun t ht => by
    have a1 := (w.has_per (c := B) k1 (k := s.len / Int.gcd r.len s.len) gk1) t ht
    have a2 := (v.has_per (c := B) k2 (k := r.len / Int.gcd r.len s.len) gk2) t ht
    rw [← eL2] at a1
    rw [← eL1] at a2
    show opB x y z (r.has t) (s.has t) = opB x y z (r.has (t + L)) (s.has (t + L))
    have b1 : r.has t = r.has (t + L) := a1
    have b2 : s.has t = s.has (t + L) := a2
    rw [b1, b2]
  have neg : ∀ t, t < 0 → opB x y z (r.has t) (s.has t) = false := fun t ht => by
    rw [show r.has t = false from qhas_neg w ht, show s.has t = false from qhas_neg v ht]
    rfl
  have raw := raw_set (e := ns.filter fun t => decide (t < B)) (o := (ns.filter fun t => decide (B ≤ t)).map fun t => t - B) (by omega) L1 neg per (nst.sublist List.filter_sublist) (fun t => by
      rw [List.mem_filter, hmem, decide_eq_true_iff]
      exact ⟨fun q => ⟨q.1.1, q.2⟩, fun q => ⟨⟨q.1, by omega⟩, q.2⟩⟩) (by
      rw [List.pairwise_map]
      exact (nst.sublist List.filter_sublist).imp fun h => by omega) (fun t => by
      rw [List.mem_map]
      constructor
      · rintro ⟨u, hu, rfl⟩
        have q := List.mem_filter.mp hu
        have q1 := (hmem u).mp q.1
        have q2 := of_decide_eq_true q.2
        have e : u - B + B = u := by omega
        exact ⟨by rw [e]; exact q1.1, by omega, by omega⟩
      · rintro ⟨h1, h2, h3⟩
        exact ⟨t + B, List.mem_filter.mpr ⟨(hmem _).mpr ⟨h1, by omega⟩, decide_eq_true (by omega)⟩, by omega⟩)
  refine ⟨P, O, _, B, L, _, rfl, lOf h13, .inl (lOf (e13 _ _ h12)), raw.1, k3, hL, fun H14 c q e14' hc R hq => ?_⟩
  have eall := e14.trans (e45.trans (e67.trans (e9.trans (e10.trans (e11.trans (e12.trans e13))))))
  exact h H14 c q (eall.trans e14') (eall.back hc) R fun t => by rw [hq, raw.2]
end
end TkL


namespace TkL
open PySem PySem.Spec PySem.Calls PyProof.Rows L2 Tk
section
variable {K : PySem.W.Frag} {C : Addr}
theorem rdPis_within (T : TyF K C) (vs : List V) (H : Hp) (Q : VK) (E : XK) (h : spWithin K C vs H Q E) : tPis_within K C { nx := fun _ H' => Q .non H', rt := Q } (start ["row", "other"] vs) H := by
  obtain ⟨a, b, r, s, rfl, R, S, h⟩ := h
  unfold tPis_within
  walk_at "rd"
  exact ⟨a, b, r, s, 0, rfl, R, S, Int.le_refl _, by decide, h⟩
end
end TkL


namespace Tk
theorem per_all {s : RV} (w : WF s.early s.beg s.len s.offs) {t0 l m : Int} {k0 : Int} (hl : 1 ≤ l) (hm : 1 ≤ m) (hk : 0 ≤ k0) (hd : s.len ∣ m * l) (hb : s.beg ≤ t0 + k0 * l) (h : ∀ j, 0 ≤ j → j < k0 + m → s.has (t0 + j * l) = true) : ∀ j, 0 ≤ j → s.has (t0 + j * l) = true := by
  intro j hj
  rcases Int.lt_or_le j (k0 + m) with c | c
  · exact h j hj c
  · have r0 := Int.emod_nonneg (j - k0) (show m ≠ 0 by omega)
    have r1 := Int.emod_lt_of_pos (j - k0) (show 0 < m by omega)
    have e := Int.mul_ediv_add_emod (j - k0) m
    have q0 : 0 ≤ (j - k0) / m := Int.ediv_nonneg (by omega) (by omega)
    have a := h (k0 + (j - k0) % m) (by omega) (by omega)
    obtain ⟨d, hd⟩ := hd
    have hml : 0 ≤ m * l := Int.mul_nonneg (by omega) (by omega)
    have hl1 := w.l1
    have d0 : 0 ≤ d := by
      rcases Int.lt_or_le d 0 with z | z
      · have : s.len * d ≤ s.len * (-1) := Int.mul_le_mul_of_nonneg_left (by omega) (by omega)
        have h2 : m * 1 ≤ m * l := Int.mul_le_mul_of_nonneg_left hl (by omega)
        omega
      · exact z
    have p := w.has_per (c := s.beg) (Int.le_refl _) (k := d * ((j - k0) / m)) (Int.mul_nonneg d0 q0)
    generalize (j - k0) / m = q at *
    generalize (j - k0) % m = x at *
    have hx : 0 ≤ x * l := Int.mul_nonneg r0 (by omega)
    have e1 : (k0 + x) * l = k0 * l + x * l := Int.add_mul ..
    have e2 : s.len * (d * q) = m * l * q := by rw [← Int.mul_assoc, ← hd]
    have e3 : j * l = (k0 + x) * l + m * l * q := by
      have : j = (k0 + x) + m * q := by omega
      rw [this, Int.add_mul, Int.mul_assoc m q l, Int.mul_comm q l, Int.mul_assoc]
    have b := p (t0 + (k0 + x) * l) (by rw [e1]; omega)
    rw [e2] at b
    have e4 : t0 + j * l = t0 + (k0 + x) * l + m * l * q := by omega
    rw [e4]
    show qhas s.early s.beg s.len s.offs _ = true
    rw [← b]
    exact a
end Tk


namespace TkL
open PySem PySem.Spec PySem.Calls PyProof.Rows L2 Tk
theorem sA (a b c : Str) : a ++ b ++ c = a ++ (b ++ c) := TL.ext_tl (by simp only [TL.tl_append, List.append_assoc])
theorem sE (a : Str) : Str.empty ++ a = a := TL.ext_tl (by rw [TL.tl_append]; rfl)
theorem eS (a : Str) : a ++ Str.empty = a := TL.ext_tl (by rw [TL.tl_append]; show TL.tl a ++ [] = _; rw [List.append_nil])
theorem sL (a b : Str) : (a ++ b).length = a.length + b.length := by rw [TL.len_tl, TL.len_tl a, TL.len_tl b, TL.tl_append, List.length_append]
theorem catS_snoc (l : List Str) (x : Str) : catS (l ++ [x]) = catS l ++ x := by unfold catS; rw [List.foldl_append]; rfl
theorem sepN_snoc (l : List Int) (x : Int) : sepN (l ++ [x]) = sepN l ++ [(" " : Str) ++ numS x] := by unfold sepN; rw [List.map_append]; rfl
theorem fold_acc : ∀ (l : List Str) (a : Str), l.foldl (· ++ ·) a = a ++ l.foldl (· ++ ·) Str.empty
  | [], a => (eS a).symm
  | b :: l, a => by
    show l.foldl (· ++ ·) (a ++ b) = a ++ l.foldl (· ++ ·) (Str.empty ++ b)
    rw [fold_acc l (a ++ b), fold_acc l (Str.empty ++ b), sE, sA]
theorem catS_cons (a : Str) (l : List Str) : catS (a :: l) = a ++ catS l := by
  unfold catS
  show l.foldl (· ++ ·) (Str.empty ++ a) = _
  rw [fold_acc, sE]
theorem cat_len : ∀ (l : List Int), (∀ x ∈ l, 0 ≤ x ∧ x < 1000000) → (catS (sepN l)).length ≤ 7 * l.length
  | [], _ => by decide
  | x :: l, h => by
    have a := cat_len l (fun y hy => h y (by simp [hy]))
    have hx := h x (by simp)
    have b := (numS_len hx.1 hx.2).2
    show (catS (((" " : Str) ++ numS x) :: sepN l)).length ≤ _
    rw [catS_cons, sL, sL, List.length_cons]
    have : (" " : Str).length = 1 := by decide
    omega
theorem diffs_pos : ∀ {l : List Int}, l.Pairwise (· < ·) → ∀ x ∈ diffs l, 1 ≤ x
  | [], _, x, hx => absurd hx List.not_mem_nil
  | [_], _, x, hx => absurd hx List.not_mem_nil
  | a :: b :: l, h, x, hx => by
    have h1 := List.pairwise_cons.mp h
    rcases List.mem_cons.mp (show x ∈ (b - a) :: diffs (b :: l) from hx) with e | e
    · have := h1.1 b (by simp); omega
    · exact diffs_pos h1.2 x e
theorem diffs_le : ∀ {l : List Int} {m : Int}, (∀ x ∈ l, 0 ≤ x ∧ x ≤ m) → ∀ x ∈ diffs l, x ≤ m
  | [], m, _, x, hx => absurd hx List.not_mem_nil
  | [_], m, _, x, hx => absurd hx List.not_mem_nil
  | a :: b :: l, m, h, x, hx => by
    rcases List.mem_cons.mp (show x ∈ (b - a) :: diffs (b :: l) from hx) with e | e
    · have := h a (by simp); have := h b (by simp); omega
    · exact diffs_le (fun y hy => h y (List.mem_cons_of_mem _ hy)) x e
theorem big_line : (4000000 : Nat) ≤ sizeLine := by decide
theorem lap_lists {r : RV} (rb : RB r) : (∀ x ∈ r.flaps, 0 ≤ x ∧ x < 1000000) ∧ ∀ x ∈ r.laps, 0 ≤ x ∧ x < 1000000 := by
  have w := rb.c.wf
  have bb := rb.bb
  have lb := rb.lb
  have b0 := w.b0
  have l1 := w.l1
  have to : ∀ y ∈ r.offs.take 1, 0 ≤ y ∧ y < r.len := fun y hy => w.ow y (List.mem_of_mem_take hy)
  constructor
  · intro x hx
    have p : (r.early ++ (r.offs.take 1).map (r.beg + ·)).Pairwise (· < ·) := by
      rw [List.pairwise_append]
      refine ⟨w.es, ?_, fun u hu v hv => ?_⟩
      · rw [List.pairwise_map]; exact (w.os.sublist (List.take_sublist _ _)).imp fun h => by omega
      · obtain ⟨y, hy, rfl⟩ := List.mem_map.mp hv
        have := w.er u hu; have := to y hy; omega
    have a := diffs_pos p x hx
    have b := diffs_le (m := 300000) (fun y hy => by
      rcases List.mem_append.mp hy with z | z
      · have := w.er y z; omega
      · obtain ⟨v, hv, rfl⟩ := List.mem_map.mp z
        have := to v hv; omega) x hx
    omega
  · intro x hx
    have p : (r.offs ++ (r.offs.take 1).map (· + r.len)).Pairwise (· < ·) := by
      rw [List.pairwise_append]
      refine ⟨w.os, ?_, fun u hu v hv => ?_⟩
      · rw [List.pairwise_map]; exact (w.os.sublist (List.take_sublist _ _)).imp fun h => by omega
      · obtain ⟨y, hy, rfl⟩ := List.mem_map.mp hv
        have := w.ow u hu; have := to y hy; omega
    have a := diffs_pos p x hx
    have b := diffs_le (m := 300000) (fun y hy => by
      rcases List.mem_append.mp hy with z | z
      · have := w.ow y z; omega
      · obtain ⟨v, hv, rfl⟩ := List.mem_map.mp z
        have := to v hv; omega) x hx
    omega
section
variable {K : PySem.W.Frag} {C : Addr} {H : Hp} {Q : VK} {σ : L2.St}
theorem x_fmt {te : TE} (h : te σ H fun x H1 => (∃ y : Str, x = .str y ∧ y.length ≤ sizeLine ∧ Q (.str y) H1) ∨ ∃ i : Int, x = .int i ∧ i.natAbs.log2 < 1920 ∧ Q (.str (toString i)) H1) : tFmt te σ H Q := h
theorem x_join3 {a b c : TE} (h : a σ H fun x H1 => ∃ y : Str, x = .str y ∧ (Str.empty ++ y).length ≤ sizeLine ∧ b σ H1 fun x H2 => ∃ z : Str, x = .str z ∧ (Str.empty ++ y ++ z).length ≤ sizeLine ∧ c σ H2 fun x H3 => ∃ w : Str, x = .str w ∧ (Str.empty ++ y ++ z ++ w).length ≤ sizeLine ∧ Q (.str (Str.empty ++ y ++ z ++ w)) H3) : tJoin [a, b, c] σ H Q := h
theorem x_join2 {a b : TE} (h : a σ H fun x H1 => ∃ y : Str, x = .str y ∧ (Str.empty ++ y).length ≤ sizeLine ∧ b σ H1 fun x H2 => ∃ z : Str, x = .str z ∧ (Str.empty ++ y ++ z).length ≤ sizeLine ∧ Q (.str (Str.empty ++ y ++ z)) H2) : tJoin [a, b] σ H Q := h
theorem x_lapJ {i j : Nat} {z : Str} {n : Int} (e1 : σ[i]? = some (some (.str z))) (e2 : σ[j]? = some (some (.int n))) (hz : z.length ≤ 3000000) (h0 : 0 ≤ n) (h1 : n < 1000000) (h : Q (.str (z ++ ((" " : Str) ++ numS n))) H) : tJoin [tFmt (tVar i), tC (.str " "), tFmt (tVar j)] σ H Q := by
  have bg := big_line
  have nl := (numS_len h0 h1).2
  have s1 : (" " : Str).length = 1 := by decide
  refine x_join3 (x_fmt (x_var e1 (.inl ⟨z, rfl, by omega, z, rfl, by rw [sE]; omega, ?_⟩)))
  refine ⟨" ", rfl, by rw [sE, sL]; omega, x_fmt (x_var e2 (.inr ⟨n, rfl, log_small h0 h1, numS n, rfl, by rw [sE, sL, sL]; omega, ?_⟩))⟩
  rw [sE, sA]
  exact h
theorem rdRtext (T : TyF K C) (vs : List V) (H : Hp) (Q : VK) (E : XK) (h : spText K C vs H Q E) : tRtext K C { nx := fun _ H' => Q .non H', rt := Q } (start ["self", "start", "text", "lap"] vs) H := by
  obtain ⟨a, r, rfl, ⟨dx, p1, p2, p3, p4, I⟩, h⟩ := h
  have ll := lap_lists I.rb
  have el := I.rb.el2
  have ol := I.rb.ol2
  have bb := I.rb.bb
  have b0 := I.rb.c.wf.b0
  have lb := I.rb.lb
  have fl : r.flaps.length ≤ 200001 := by
    unfold RV.flaps
    rw [diffs_len, List.length_append, List.length_map, List.length_take]; omega
  have pl := laps_len (r := r)
  have bg := big_line
  unfold tRtext
  walk_at "rd"
  refine fl_early T I ?_
  walk_at "rd"
  refine x_lenT I.e ?_
  walk_at "rd"
  refine fl_offsets T I ?_
  walk_at "rd"
  refine x_lenT I.o ?_
  walk_at "rd"
  refine x_rEq rfl ?_
  walk_at "rd"
  by_cases c : r.early.length + r.offs.length = 0
  · refine x_yesD (by congr 1; omega) ?_
    walk_at "rd"
    have := h H (Ex.refl H)
    unfold rowText at this
    rw [if_pos c] at this
    exact this
  · refine x_no (fun z => c (by have := V.int.inj z; omega)) ?_
    walk_at "rd"
    refine fl_early T I ?_
    walk_at "rd"
    refine x_lenT I.e ?_
    walk_at "rd"
    refine (fun (key : ∀ st : Int, st = (if 0 < r.early.length then r.early.getD 0 0 else r.beg + r.offs.getD 0 0) → gName 1 (V.int st) ?σ H ?N) => ?use) ?keyp
    case use =>
      refine x_iteD (fun c1 => ?_) (fun c1 => ?_)
      · walk_at "rd"
        refine fl_early T I ?_
        walk_at "rd"
        refine x_ixT I.e (atI_zI (by omega) (by omega)) ?_
        exact key _ (by rw [if_pos (by omega)]; first | done | rfl)
      · walk_at "rd"
        refine fl_begin T I ?_
        walk_at "rd"
        refine fl_offsets T I ?_
        walk_at "rd"
        refine x_ixT I.o (atI_zI (by omega) (by omega)) ?_
        refine x_rI0 ?_
        exact key _ (by rw [if_neg (by omega)]; first | done | rfl)
    intro st hst
    have st0 : 0 ≤ st ∧ st < 1000000 := by
      rw [hst]
      split
      · rename_i c1
        have := I.rb.c.wf.er _ (Tk.getD_mem c1); omega
      · rename_i c1
        have := I.rb.c.wf.ow _ (Tk.getD_mem (i := 0) (show 0 < r.offs.length by omega)); omega
    have sl := (numS_len st0.1 st0.2).2
    walk_at "rd"
    refine x_fmt ?_
    walk_at "rd"
    refine .inr ⟨st, rfl, log_small st0.1 st0.2, ?_⟩
    refine x_name ?_
    dsimp only
    refine x_for (x_itup ?_)
    walk_at "rd"
    refine ⟨_, _, _, rfl, I.ob, a, r, rfl, ⟨dx, p1, p2, p3, p4, I⟩, fun H1 q1 e1 h1 => ?_⟩
    walk_at "rd"
    refine ⟨⟨_, tOf h1⟩, ?_⟩
    refine for_wk (H0 := H1) (Wk.tup (tOf h1)) (fun i σ H' => ∃ u, σ = [some (.ref a), some (.int st), some (.str (numS st ++ catS (sepN (r.flaps.take i)))), u] ∧ Ex H1 H') ⟨_, by rw [List.take_zero]; show _ = [_, _, some (V.str (numS st ++ Str.empty)), _]; rw [eS]; rfl, Ex.refl _⟩ (fun i σ H' ⟨_, _, e⟩ => e) ?_ ?_
    · rintro i x σ H2 hx ⟨u, rfl, e2⟩
      obtain ⟨n, hn, rfl⟩ := zI_get hx
      have hr := ll.1 n (List.mem_of_getElem? hn)
      have cl := cat_len (r.flaps.take i) fun x hx => ll.1 x (List.mem_of_mem_take hx)
      rw [List.length_take] at cl
      walk_at "rd"
      refine x_lapJ rfl rfl (by rw [sL]; omega) hr.1 hr.2 ?_
      walk_at "rd"
      refine ⟨some (.int n), ?_, e2⟩
      rw [take_succ' hn, sepN_snoc, catS_snoc]
      simp only [sA]
      rfl
    · rintro σ H2 ⟨u, rfl, e2⟩
      rw [zI_len, List.take_length]
      have e12 := e1.trans e2
      have I2 := I.ex e12
      have cl1 := cat_len r.flaps ll.1
      walk_at "rd"
      refine fl_offsets T I2 ?_
      walk_at "rd"
      refine x_lenT I2.o ?_
      walk_at "rd"
      refine x_iteD (fun c2 => ?_) (fun c2 => ?_)
      · walk_at "rd"
        have s2 : (" |" : Str).length = 2 := by decide
        refine x_join2 (x_fmt (x_var rfl (.inl ⟨_, rfl, by rw [sL]; omega, _, rfl, by rw [sE, sL]; omega, ?_⟩)))
        refine ⟨" |", rfl, by rw [sE, sL, sL]; omega, ?_⟩
        rw [sE]
        refine x_name ?_
        dsimp only
        refine x_for (x_itup ?_)
        walk_at "rd"
        refine ⟨_, _, _, rfl, I2.ob, a, r, rfl, ⟨dx, p1, p2, p3, p4, I2⟩, fun H3 q3 e3 h3 => ?_⟩
        walk_at "rd"
        refine ⟨⟨_, tOf h3⟩, ?_⟩
        refine for_wk (H0 := H3) (Wk.tup (tOf h3)) (fun i σ H' => ∃ u, σ = [some (.ref a), some (.int st), some (.str (numS st ++ catS (sepN r.flaps) ++ ((" |" : Str) ++ catS (sepN (r.laps.take i))))), u] ∧ Ex H3 H') ⟨_, by rw [List.take_zero]; show _ = [_, _, some (V.str (numS st ++ catS (sepN r.flaps) ++ ((" |" : Str) ++ Str.empty))), _]; rw [eS]; rfl, Ex.refl _⟩ (fun i σ H' ⟨_, _, e⟩ => e) ?_ ?_
        · rintro i x σ H4 hx ⟨u, rfl, e4⟩
          obtain ⟨n, hn, rfl⟩ := zI_get hx
          have hr := ll.2 n (List.mem_of_getElem? hn)
          have cl := cat_len (r.laps.take i) fun x hx => ll.2 x (List.mem_of_mem_take hx)
          rw [List.length_take] at cl
          walk_at "rd"
          refine x_lapJ rfl rfl (by rw [sL, sL, sL]; omega) hr.1 hr.2 ?_
          walk_at "rd"
          refine ⟨some (.int n), ?_, e4⟩
          rw [take_succ' hn, sepN_snoc, catS_snoc]
          simp only [sA]
          rfl
        · rintro σ H4 ⟨u, rfl, e4⟩
          rw [zI_len, List.take_length]
          walk_at "rd"
          have := h H4 (e12.trans (e3.trans e4))
          unfold rowText at this
          rw [if_neg c, ← hst, if_pos (by omega)] at this
          exact this
      · walk_at "rd"
        have := h H2 e12
        unfold rowText at this
        rw [if_neg c, ← hst, if_neg (by omega), eS] at this
        exact this
end
end TkL


namespace TkL
open PySem PySem.Spec PySem.Calls PyProof.Rows L2 Tk
theorem fits_iff {r s : RV} {h : Int} (w : WF r.early r.beg r.len r.offs) : fitsB r s h ↔ (∀ t ∈ r.early, s.has (t + h) = true) ∧ ∀ o ∈ r.offs, ∀ j : Int, 0 ≤ j → s.has (r.beg + o + h + j * r.len) = true := by
  have l1 := w.l1
  constructor
  · intro f
    refine ⟨fun t ht => f t (by rw [RV.has_lo (w.er t ht).2]; exact decide_eq_true ht), fun o ho j hj => ?_⟩
    have hr := w.ow o ho
    have hjl : 0 ≤ j * r.len := Int.mul_nonneg hj (by omega)
    have := f (r.beg + o + j * r.len) (by
      rw [RV.has_hi (by omega)]
      have d := div_unique (u := r.beg + o + j * r.len - r.beg) (q := j) hr.1 hr.2 (by omega)
      rw [d.2]; exact decide_eq_true ho)
    have e : r.beg + o + j * r.len + h = r.beg + o + h + j * r.len := by omega
    rw [e] at this
    exact this
  · rintro ⟨h1, h2⟩ t ht
    rcases Int.lt_or_le t r.beg with c | c
    · rw [RV.has_lo c] at ht; exact h1 t (of_decide_eq_true ht)
    · rw [RV.has_hi c] at ht
      have := h2 _ (of_decide_eq_true ht) ((t - r.beg) / r.len) (Int.ediv_nonneg (by omega) (by omega))
      have e := Int.mul_ediv_add_emod (t - r.beg) r.len
      have e2 : r.beg + (t - r.beg) % r.len + h + (t - r.beg) / r.len * r.len = t + h := by rw [Int.mul_comm] at e; omega
      rw [e2] at this
      exact this
section
variable {K : PySem.W.Frag} {C : Addr}
theorem x_rholds {H : Hp} {Q : VK} {E : XK} {a : Addr} {s : RV} {t : Int} (S : RowAt K C H a s) (h : Q (.bl (s.has t)) H) : spHolds K C [.ref a, .int t] H Q E := ⟨a, t, s, rfl, S, h⟩
theorem rdPfits (T : TyF K C) (vs : List V) (H : Hp) (Q : VK) (E : XK) (h : spFits K C vs H Q E) : tPfits K C { nx := fun _ H' => Q .non H', rt := Q } (start ["row", "other", "handicap", "divisor", "rounds", "offset", "tick", "turn"] vs) H := by
  obtain ⟨a, b, r, s, g, rfl, ⟨dx, p1, p2, p3, p4, I⟩, ⟨dy, q1, q2, q3, q4, J⟩, g0, g1, h⟩ := h
  have w := I.rb.c.wf
  have v := J.rb.c.wf
  have l1 := w.l1
  have m1 := v.l1
  have lb := I.rb.lb
  have mb := J.rb.lb
  have fi := fits_iff (h := g) (s := s) w
  have no : ∀ H', Ex H H' → ¬ fitsB r s g → Q (.bl false) H' := fun H' e n => h H' false e ⟨fun z => (by cases z), fun z => absurd z n⟩
  unfold tPfits
  walk_at "rd"
  refine x_lc (x_itup ?_)
  walk_at "rd"
  refine fl_early T I ?_
  walk_at "rd"
  refine ⟨⟨_, I.e⟩, ?_⟩
  refine lcfI (Wk.tup I.e) (fun _ => true) (fun t => .bl (s.has (t + g))) (by have := I.rb.el2; omega) (fun t H' Qb _ e q => q) (fun t H' Qv _ _ e q => ?_) (fun D H1 e1 hD hl1 => ?_)
  · walk_at "rd"
    refine ⟨_, _, _, rfl, (J.ex e).ob, rfl, ?_⟩
    walk_at "rd"
    exact x_rholds ⟨dy, q1, q2, q3, q4, J.ex e⟩ q
  rw [List.filter_eq_self.mpr (fun _ _ => rfl), map_bl] at hl1
  walk_at "rd"
  refine ⟨D, _, rfl, lOf hl1, ?_⟩
  walk_at "rd"
  have ea : (r.early.map fun t => s.has (t + g)).all id = true ↔ ∀ t ∈ r.early, s.has (t + g) = true := by
    rw [List.all_map, List.all_eq_true]; rfl
  cases hb : (r.early.map fun t => s.has (t + g)).all id with
  | false =>
    refine iteT ?_
    walk_at "rd"
    exact no H1 e1 fun f => by rw [ea.mpr (fi.mp f).1] at hb; cases hb
  | true =>
    refine iteF ?_
    have I1 := I.ex e1
    have J1 := J.ex e1
    walk_at "rd"
    refine fl_length T I1 ?_
    walk_at "rd"
    refine fl_length T J1 ?_
    walk_at "rd"
    refine ⟨_, _, rfl, by omega, by omega, by omega, by omega, ?_⟩
    have gc : 1 ≤ Int.gcd r.len s.len := Nat.one_le_iff_ne_zero.mpr fun z => by
      have := (Int.gcd_eq_zero_iff.mp z).1
      omega
    have da : (Int.gcd r.len s.len : Int) ∣ r.len := Int.gcd_dvd_left ..
    have db : (Int.gcd r.len s.len : Int) ∣ s.len := Int.gcd_dvd_right ..
    have gle : (Int.gcd r.len s.len : Int) ≤ s.len := Int.le_of_dvd (by omega) db
    walk_at "rd"
    refine fl_length T J1 ?_
    walk_at "rd"
    refine x_rI ⟨by omega, by omega⟩ ?_
    walk_at "rd"
    have gcI : (1 : Int) ≤ (Int.gcd r.len s.len : Int) := by omega
    have hd : s.len ∣ s.len / (Int.gcd r.len s.len : Int) * r.len := by
      obtain ⟨x, hx⟩ := da
      obtain ⟨y, hy⟩ := db
      refine ⟨x, ?_⟩
      generalize (Int.gcd r.len s.len : Int) = gg at *
      have e1 : s.len / gg = y := by rw [hy]; exact Int.mul_ediv_cancel_left _ (by omega)
      rw [e1, hx]
      conv => rhs; rw [hy]
      rw [← Int.mul_assoc, Int.mul_comm y gg]
    have hm : 1 ≤ s.len / (Int.gcd r.len s.len : Int) := by
      have := Int.ediv_le_ediv (c := (Int.gcd r.len s.len : Int)) (by omega) gle
      rw [Int.ediv_self (by omega)] at this
      exact this
    generalize s.len / (Int.gcd r.len s.len : Int) = m at *
    refine x_for (x_itup ?_)
    walk_at "rd"
    refine fl_offsets T I1 ?_
    walk_at "rd"
    refine ⟨⟨_, I1.o⟩, ?_⟩
    refine for_wk (H0 := H1) (Wk.tup I1.o) (fun i σ H' => ∃ u5 u6 u7, σ = [some (.ref a), some (.ref b), some (.int g), some (.int (Int.gcd r.len s.len)), some (.int m), u5, u6, u7] ∧ H' = H1 ∧ ∀ o ∈ r.offs.take i, ∀ j : Int, 0 ≤ j → s.has (r.beg + o + g + j * r.len) = true)
      ⟨_, _, _, rfl, rfl, fun o ho => by simp at ho⟩ (fun i σ H' ⟨_, _, _, _, e, _⟩ => by rw [e]; exact Ex.refl _) ?_ ?_
    · rintro i x σ H2 hx ⟨u5, u6, u7, rfl, rfl, hi⟩
      obtain ⟨o, ho, rfl⟩ := zI_get hx
      walk_at "rd"
      refine fl_begin T I1 ?_
      walk_at "rd"
      refine x_while (fun n σ H' => ∃ k k0 : Int, σ = [some (.ref a), some (.ref b), some (.int g), some (.int (Int.gcd r.len s.len)), some (.int m), some (.int o), some (.int (r.beg + o + g + k * r.len)), some (.int (k - k0))] ∧ H' = H2 ∧ 0 ≤ k0 ∧ k0 ≤ k ∧ (∀ j, 0 ≤ j → j < k → s.has (r.beg + o + g + j * r.len) = true) ∧ (k0 < k → s.beg ≤ r.beg + o + g + k0 * r.len) ∧ (k0 = k ∨ s.beg ≤ r.beg + o + g + k * r.len) ∧ n = (m - (k - k0)).toNat + (s.beg - (r.beg + o + g + k * r.len)).toNat)
        _ ⟨0, 0, by rw [Int.zero_mul, Int.add_zero]; rfl, rfl, Int.le_refl _, Int.le_refl _, fun j a b => by omega, fun z => by omega, .inl rfl, rfl⟩ ?_
      rintro n σ H3 ⟨k, k0, rfl, rfl, kk0, kk, hj, hk1, hk2, rfl⟩
      have bye : ∀ H', H' = H3 → s.has (r.beg + o + g + k * r.len) = false → Q (.bl false) H' := fun H' e hf => by
        subst e
        refine no _ e1 fun f => ?_
        have := (fi.mp f).2 o (List.mem_of_getElem? ho) k (by omega)
        rw [hf] at this; cases this
      walk_at "rd"
      refine (fun (key : (k - k0 < m ∨ r.beg + o + g + k * r.len < s.beg) → ?G) => ?use) ?keyp
      case use =>
        by_cases c1 : k - k0 < m
        · refine x_yesD c1 ?_
          refine iteT ?_
          exact key (.inl c1)
        · refine x_no c1 ?_
          walk_at "rd"
          refine fl_begin T J1 ?_
          walk_at "rd"
          by_cases c2 : r.beg + o + g + k * r.len < s.beg
          · refine x_yesD c2 ?_
            exact key (.inr c2)
          · refine x_no c2 ?_
            refine ⟨_, _, _, rfl, rfl, fun o' ho' => ?_⟩
            rw [take_succ' ho] at ho'
            rcases List.mem_append.mp ho' with z | z
            · exact hi o' z
            · rw [List.mem_singleton.mp z]
              exact per_all v l1 hm kk0 hd (hk1 (by omega)) fun j a b => hj j a (by omega)
      intro cc
      refine x_whN ?_
      walk_at "rd"
      refine ⟨_, _, _, rfl, J1.ob, rfl, ?_⟩
      walk_at "rd"
      refine x_rholds ⟨dy, q1, q2, q3, q4, J1⟩ ?_
      walk_at "rd"
      cases hh : s.has (r.beg + o + g + k * r.len) with
      | false =>
        refine iteT ?_
        walk_at "rd"
        exact bye _ rfl hh
      | true =>
        refine iteF ?_
        walk_at "rd"
        refine fl_begin T J1 ?_
        walk_at "rd"
        refine fl_length T I1 ?_
        walk_at "rd"
        have ek : (k + 1) * r.len = k * r.len + r.len := by rw [Int.add_mul]; omega
        have hj' : ∀ j, 0 ≤ j → j < k + 1 → s.has (r.beg + o + g + j * r.len) = true := fun j a b => by
          by_cases e : j = k
          · subst e; exact hh
          · exact hj j a (by omega)
        by_cases c3 : s.beg ≤ r.beg + o + g + k * r.len
        · rw [decide_eq_true c3]
          refine ⟨_, ?_, k + 1, k0, ?_, rfl, kk0, by omega, hj', fun _ => ?_, .inr (by omega), rfl⟩
          · omega
          · have e1 : k + 1 - k0 = k - k0 + 1 := by omega
            have e2 : r.beg + o + g + (k + 1) * r.len = r.beg + o + g + k * r.len + r.len := by omega
            rw [e1, e2]; rfl
          · by_cases e : k0 = k
            · rw [e]; exact c3
            · exact hk1 (by omega)
        · rw [decide_eq_false c3]
          have e0 : k0 = k := hk2.elim id fun z => absurd z c3
          subst e0
          refine ⟨_, ?_, k0 + 1, k0 + 1, ?_, rfl, by omega, Int.le_refl _, hj', fun z => by omega, .inl rfl, rfl⟩
          · omega
          · have e1 : k0 + 1 - (k0 + 1) = k0 - k0 + 0 := by omega
            have e2 : r.beg + o + g + (k0 + 1) * r.len = r.beg + o + g + k0 * r.len + r.len := by omega
            rw [e1, e2]; rfl
    · rintro σ H2 ⟨u5, u6, u7, rfl, rfl, hi⟩
      rw [zI_len, List.take_length] at hi
      walk_at "rd"
      exact h H2 true e1 ⟨fun _ => fi.mpr ⟨ea.mp hb, hi⟩, fun _ => rfl⟩
end
end TkL


namespace TkL
open PySem PySem.Spec PySem.Calls PyProof.Rows L2 Tk
theorem join_cat : ∀ (ws : List Str) (w : Str), Txt.join " " (w :: ws) = w ++ catS (ws.map fun x => (" " : Str) ++ x)
  | [], w => by rw [TL.join_eq]; exact (eS w).symm
  | v :: ws, w => by
    have ih := join_cat ws v
    rw [TL.join_eq] at ih ⊢
    show w ++ " " ++ Str.join " " (v :: ws) = _
    rw [ih, List.map_cons, catS_cons, sA, sA]
theorem catS_app : ∀ (l m : List Str), catS (l ++ m) = catS l ++ catS m
  | [], m => (sE _).symm
  | a :: l, m => by rw [List.cons_append, catS_cons, catS_cons, catS_app l m, sA]
theorem sepN_map (l : List Int) : sepN l = (l.map numS).map fun x => (" " : Str) ++ x := by unfold sepN; rw [List.map_map]; rfl
theorem plan_text (st : Int) (fs ls : List Int) : Txt.join " " (planWords st fs ls) = numS st ++ catS (sepN fs) ++ ((" |" : Str) ++ catS (sepN ls)) := by
  have e : planWords st fs ls = numS st :: (fs.map numS ++ (("|" : Str) :: ls.map numS)) := rfl
  have e2 : (" " : Str) ++ ("|" : Str) = " |" := by decide +kernel
  rw [e, join_cat, List.map_append, List.map_cons, catS_app, catS_cons, ← sepN_map, ← sepN_map, e2, sA]
theorem fin_text (st : Int) (fs : List Int) : Txt.join " " ((st :: fs).map numS) = numS st ++ catS (sepN fs) := by
  rw [List.map_cons, join_cat, ← sepN_map]
end TkL


namespace Tk
theorem tks_diffs : ∀ (a : Int) (l : List Int), tks a (diffs (a :: l)) = a :: l
  | a, [] => rfl
  | a, b :: l => by
    show a :: tks (a + (b - a)) (diffs (b :: l)) = a :: b :: l
    have e : a + (b - a) = b := by omega
    rw [e, tks_diffs b l]
theorem tks_shift : ∀ (a c : Int) (l : List Int), tks (a + c) l = (tks a l).map (· + c)
  | a, c, [] => rfl
  | a, c, b :: l => by
    show (a + c) :: tks (a + c + b) l = (a + c) :: (tks (a + b) l).map (· + c)
    have e : a + c + b = a + b + c := by omega
    rw [e, tks_shift (a + b) c l]
theorem plan_of_row {r : RV} (w : WF r.early r.beg r.len r.offs) (ho : r.offs ≠ []) : (∀ t, planHas (if 0 < r.early.length then r.early.getD 0 0 else r.beg + r.offs.getD 0 0) r.flaps r.laps t = r.has t) := by
  have l1 := w.l1
  obtain ⟨o0, os, eo⟩ : ∃ o0 os, r.offs = o0 :: os := by
    cases h : r.offs with
    | nil => exact absurd h ho
    | cons a l => exact ⟨a, l, rfl⟩
  have h0 := w.ow o0 (by rw [eo]; simp)
  have hfirst : ∀ x ∈ r.offs, o0 ≤ x := fun x hx => by
    have p := w.os
    rw [eo] at hx p
    rcases List.mem_cons.mp hx with e | e
    · omega
    · have := (List.pairwise_cons.mp p).1 x e; omega
  have ef : r.flaps = diffs (r.early ++ [r.beg + o0]) := by unfold RV.flaps; rw [eo]; rfl
  have el : r.laps = diffs (o0 :: (os ++ [o0 + r.len])) := by unfold RV.laps; rw [eo]; rfl
  have eg : r.offs.getD 0 0 = o0 := by rw [eo]; rfl
  rw [eg]
  have a1 : tks (if 0 < r.early.length then r.early.getD 0 0 else r.beg + o0) r.flaps = r.early ++ [r.beg + o0] := by
    rw [ef]
    cases he : r.early with
    | nil => rfl
    | cons x l => exact tks_diffs x (l ++ [r.beg + o0])
  generalize (if 0 < r.early.length then r.early.getD 0 0 else r.beg + o0) = st at *
  have a2 := tks_split (a := st) (l := r.flaps)
  rw [a1, List.dropLast_concat] at a2
  have a3 : r.beg + o0 = st + r.flaps.sum := by
    have := List.append_cancel_left a2
    exact (List.cons.inj this).1
  have b1 : tks o0 r.laps = o0 :: (os ++ [o0 + r.len]) := by rw [el]; exact tks_diffs _ _
  have b2 := tks_split (a := o0) (l := r.laps)
  have b1' : o0 :: (os ++ [o0 + r.len]) = r.offs ++ [o0 + r.len] := by rw [eo]; rfl
  rw [b1, b1', List.dropLast_concat] at b2
  have b3 : r.laps.sum = r.len := by
    have := (List.cons.inj (List.append_cancel_left b2)).1
    omega
  have c1 := tks_shift 0 o0 r.laps
  rw [Int.zero_add, b1, b1'] at c1
  have c2 : ∀ u, u ∈ (tks 0 r.laps).dropLast ↔ u + o0 ∈ r.offs := fun u => by
    have e : r.offs = ((tks 0 r.laps).dropLast).map (· + o0) := by
      have := congrArg List.dropLast c1
      rw [List.dropLast_concat] at this
      rw [this, List.map_dropLast]
    rw [e, List.mem_map]
    constructor
    · intro h; exact ⟨u, h, rfl⟩
    · rintro ⟨y, hy, e⟩
      have : y = u := by omega
      rw [← this]; exact hy
  intro t
  unfold planHas
  rw [a1, List.dropLast_concat, ← a3, b3]
  rcases Int.lt_or_le t (r.beg + o0) with c | c
  · rw [qhas_lo c]
    rcases Int.lt_or_le t r.beg with d | d
    · rw [RV.has_lo d]
    · rw [RV.has_hi d, Int.emod_eq_of_lt (by omega) (by omega), Bool.eq_iff_iff, decide_eq_true_iff, decide_eq_true_iff]
      exact ⟨fun h => by have := (w.er t h).2; omega, fun h => by have := hfirst _ h; omega⟩
  · rw [qhas_hi c, RV.has_hi (by omega), Bool.eq_iff_iff, decide_eq_true_iff, decide_eq_true_iff, c2]
    have r0 := Int.emod_nonneg (t - (r.beg + o0)) (show r.len ≠ 0 by omega)
    have r1 := Int.emod_lt_of_pos (t - (r.beg + o0)) (show 0 < r.len by omega)
    have e := Int.mul_ediv_add_emod (t - (r.beg + o0)) r.len
    generalize (t - (r.beg + o0)) / r.len = q at *
    generalize (t - (r.beg + o0)) % r.len = u at *
    rcases Int.lt_or_le (u + o0) r.len with d | d
    · have x := div_unique (u := t - r.beg) (q := q) (s := u + o0) (l := r.len) (by omega) d (by rw [Int.mul_comm]; omega)
      rw [x.2]
    · have x := div_unique (u := t - r.beg) (q := q + 1) (s := u + o0 - r.len) (l := r.len) (by omega) (by omega) (by rw [Int.add_mul, Int.mul_comm]; omega)
      rw [x.2]
      exact ⟨fun h => by have := (w.ow _ h).2; omega, fun h => by have := hfirst _ h; omega⟩
end Tk


namespace TkL
open PySem PySem.Spec PySem.Calls PyProof.Rows L2 Tk
theorem run_fin {s : Int} {fs : List Int} (h0 : 0 ≤ s) (hf : ∀ x ∈ fs, 1 ≤ x) (h1 : s + fs.sum ≤ 100000) : runP 0 ((s :: fs).map numS) ([], none) = some (s :: fs, none) := by
  have g1 := sum_nn hf
  show (match stepP 0 (numS s) ([], none) with | none => none | some s' => runP 1 (fs.map numS) s') = _
  rw [stepP_num h0 (fun z => absurd z (Nat.lt_irrefl _)) (by simp; omega) (by omega)]
  dsimp only
  rw [runP_nums fs 1 ([] ++ [s]) (by omega) hf (fun x hx => by simp at hx; omega) (by simp; omega) (by simp; omega)]
  rfl
end TkL


namespace TkL
open PySem PySem.Spec PySem.Calls PyProof.Rows L2 Tk
theorem split_fin {s : Int} {fs : List Int} (h0 : 0 ≤ s) (hf : ∀ x ∈ fs, 1 ≤ x) : Txt.split (Txt.join " " ((s :: fs).map numS)) " " = (s :: fs).map numS := by
  rw [map_numS (l := s :: fs) (fun x hx => by
    rcases List.mem_cons.mp hx with e | e
    · omega
    · have := hf x e; omega)]
  exact split_join (by simp [numLs]) free_nums
theorem numS_ne_never {i : Int} (h0 : 0 ≤ i) (h1 : i < 1000000) : numS i ≠ "never" := fun z => by
  have a := readN_num h0 h1
  have b : readN ("never" : Str) = none := by decide +kernel
  rw [z, b] at a; cases a
theorem parse_fin {s : Int} {fs : List Int} (h0 : 0 ≤ s) (hf : ∀ x ∈ fs, 1 ≤ x) (h1 : s + fs.sum ≤ 100000) : parseSet (Txt.join " " ((s :: fs).map numS)) = some fun t => decide (t ∈ ticksOf (s :: fs)) := by
  have g := sum_nn hf
  unfold parseSet
  rw [if_neg, split_fin h0 hf, run_fin h0 hf h1]
  intro z
  have a := split_fin h0 hf
  rw [z, never_split] at a
  have b := List.cons.inj a
  exact numS_ne_never h0 (by omega) b.1.symm
theorem first_sum {r : RV} (ho : r.offs ≠ []) : (if 0 < r.early.length then r.early.getD 0 0 else r.beg + r.offs.getD 0 0) + r.flaps.sum = r.beg + r.offs.getD 0 0 := by
  obtain ⟨o0, os, eo⟩ : ∃ o0 os, r.offs = o0 :: os := by
    cases h : r.offs with
    | nil => exact absurd h ho
    | cons a l => exact ⟨a, l, rfl⟩
  have ef : r.flaps = diffs (r.early ++ [r.beg + o0]) := by unfold RV.flaps; rw [eo]; rfl
  have eg : r.offs.getD 0 0 = o0 := by rw [eo]; rfl
  rw [eg]
  have a1 : tks (if 0 < r.early.length then r.early.getD 0 0 else r.beg + o0) r.flaps = r.early ++ [r.beg + o0] := by
    rw [ef]
    cases he : r.early with
    | nil => rfl
    | cons x l => exact tks_diffs x (l ++ [r.beg + o0])
  have a2 := tks_split (a := if 0 < r.early.length then r.early.getD 0 0 else r.beg + o0) (l := r.flaps)
  rw [a1, List.dropLast_concat] at a2
  have := List.append_cancel_left a2
  exact (List.cons.inj this).1.symm
theorem laps_sum {r : RV} (ho : r.offs ≠ []) : r.laps.sum = r.len := by
  obtain ⟨o0, os, eo⟩ : ∃ o0 os, r.offs = o0 :: os := by
    cases h : r.offs with
    | nil => exact absurd h ho
    | cons a l => exact ⟨a, l, rfl⟩
  have el : r.laps = diffs (o0 :: (os ++ [o0 + r.len])) := by unfold RV.laps; rw [eo]; rfl
  have b1 : tks o0 r.laps = o0 :: (os ++ [o0 + r.len]) := by rw [el]; exact tks_diffs _ _
  have b2 := tks_split (a := o0) (l := r.laps)
  have b1' : o0 :: (os ++ [o0 + r.len]) = r.offs ++ [o0 + r.len] := by rw [eo]; rfl
  rw [b1, b1', List.dropLast_concat] at b2
  have := (List.cons.inj (List.append_cancel_left b2)).1
  omega
theorem laps_pos {r : RV} (w : WF r.early r.beg r.len r.offs) : (∀ x ∈ r.flaps, 1 ≤ x) ∧ ∀ x ∈ r.laps, 1 ≤ x := by
  have l1 := w.l1
  have to : ∀ y ∈ r.offs.take 1, 0 ≤ y ∧ y < r.len := fun y hy => w.ow y (List.mem_of_mem_take hy)
  constructor
  · refine diffs_pos ?_
    rw [List.pairwise_append]
    refine ⟨w.es, ?_, fun u hu v hv => ?_⟩
    · cases r.offs with
      | nil => exact .nil
      | cons a l => simp
    · obtain ⟨y, hy, rfl⟩ := List.mem_map.mp hv
      have := w.er u hu
      have := to y hy
      omega
  · refine diffs_pos ?_
    rw [List.pairwise_append]
    refine ⟨w.os, ?_, fun u hu v hv => ?_⟩
    · cases r.offs with
      | nil => exact .nil
      | cons a l => simp
    · obtain ⟨y, hy, rfl⟩ := List.mem_map.mp hv
      have := w.ow u hu
      have := to y hy
      omega
theorem last_tick {e : List Int} (h : e ≠ []) : e.getD 0 0 + (diffs e).sum = e.getLastD 0 := by
  obtain ⟨a, l, rfl⟩ : ∃ a l, e = a :: l := by
    cases e with
    | nil => exact absurd rfl h
    | cons a l => exact ⟨a, l, rfl⟩
  have b1 := tks_diffs a l
  have b2 := tks_split (a := a) (l := diffs (a :: l))
  rw [b1] at b2
  have e : (a :: l).getLastD 0 = ((a :: l).dropLast ++ [a + (diffs (a :: l)).sum]).getLastD 0 := by rw [← b2]
  rw [e, List.getLastD_eq_getLast?, List.getLast?_append]
  rfl
theorem parse_text {r : RV} (rb : RB r) (he : r.offs ≠ [] → r.beg + r.offs.getD 0 0 ≤ 100000) (hf : r.offs = [] → r.early.getLastD 0 ≤ 100000) : ∃ S, parseSet (rowText r) = some S ∧ ∀ t, S t = r.has t := by
  have w := rb.c.wf
  have lp := laps_pos w
  have b0 := w.b0
  by_cases ho : r.offs = []
  · by_cases hr : r.early = []
    · refine ⟨fun _ => false, ?_, fun t => ?_⟩
      · have : rowText r = "never" := by unfold rowText; rw [if_pos (by rw [ho, hr]; rfl)]
        rw [this]
        unfold parseSet
        rw [if_pos rfl]
      · rcases Int.lt_or_le t r.beg with q | q
        · rw [RV.has_lo q, hr]; rfl
        · rw [RV.has_hi q, ho]; rfl
    · have el := List.length_pos_iff.mpr hr
      have fl : r.flaps = diffs r.early := by unfold RV.flaps; rw [ho]; simp
      have e : rowText r = Txt.join " " ((r.early.getD 0 0 :: r.flaps).map numS) := by
        unfold rowText
        rw [if_neg (by omega), fin_text, if_pos el, if_neg (show ¬ 0 < r.offs.length by rw [ho]; decide), eS]
      have h0 : 0 ≤ r.early.getD 0 0 := by
        have m : r.early.getD 0 0 ∈ r.early := by rw [List.getD_eq_getElem?_getD, List.getElem?_eq_getElem el]; exact List.getElem_mem el
        exact (w.er _ m).1
      refine ⟨_, by rw [e]; exact parse_fin h0 lp.1 (by rw [fl, last_tick hr]; exact hf ho), fun t => ?_⟩
      have tk : ticksOf (r.early.getD 0 0 :: r.flaps) = r.early := by
        rw [fl]
        cases hc : r.early with
        | nil => exact absurd hc hr
        | cons a l => exact tks_diffs a l
      rw [tk]
      rcases Int.lt_or_le t r.beg with q | q
      · rw [RV.has_lo q]
      · rw [RV.has_hi q, ho]
        simp only [List.not_mem_nil, decide_false]
        exact decide_eq_false fun z => by have := (w.er t z).2; omega
  · have ol := List.length_pos_iff.mpr ho
    have e : rowText r = Txt.join " " (planWords (if 0 < r.early.length then r.early.getD 0 0 else r.beg + r.offs.getD 0 0) r.flaps r.laps) := by
      unfold rowText
      rw [if_neg (by omega), plan_text, if_pos ol]
    have h0 : 0 ≤ (if 0 < r.early.length then r.early.getD 0 0 else r.beg + r.offs.getD 0 0) := by
      by_cases c : 0 < r.early.length
      · rw [if_pos c]
        have m : r.early.getD 0 0 ∈ r.early := by rw [List.getD_eq_getElem?_getD, List.getElem?_eq_getElem c]; exact List.getElem_mem c
        exact (w.er _ m).1
      · rw [if_neg c]
        have m : r.offs.getD 0 0 ∈ r.offs := by rw [List.getD_eq_getElem?_getD, List.getElem?_eq_getElem ol]; exact List.getElem_mem ol
        have := w.ow _ m
        omega
    have ln : r.laps ≠ [] := fun z => by
      have := laps_sum ho
      rw [z] at this
      have h0 : (0 : Int) = r.len := this
      have := w.l1
      omega
    refine ⟨_, by rw [e]; exact parse_plan h0 lp.1 lp.2 ln (by rw [first_sum ho]; exact he ho) (by rw [laps_sum ho]; exact rb.lb), fun t => ?_⟩
    exact plan_of_row w ho t
theorem text_len {r : RV} (rb : RB r) : (rowText r).length ≤ 7 * (r.early.length + r.offs.length + 4) := by
  have ll := lap_lists rb
  have c1 := cat_len r.flaps ll.1
  have c2 := cat_len r.laps ll.2
  have w := rb.c.wf
  have bb := rb.bb
  have lb := rb.lb
  have b0 := w.b0
  have dl : ∀ l : List Int, (diffs l).length ≤ l.length - 1 := fun l => by
    induction l with
    | nil => simp [diffs]
    | cons a l ih =>
      cases l with
      | nil => simp [diffs]
      | cons b l => show (diffs (b :: l)).length + 1 ≤ _; simp at ih ⊢; omega
  have f1 : r.flaps.length ≤ r.early.length + 1 := by
    have := dl (r.early ++ (r.offs.take 1).map (r.beg + ·))
    have e : r.flaps = diffs (r.early ++ (r.offs.take 1).map (r.beg + ·)) := rfl
    rw [e]
    rw [List.length_append, List.length_map, List.length_take] at this
    omega
  have f2 : r.laps.length ≤ r.offs.length + 1 := by
    have := dl (r.offs ++ (r.offs.take 1).map (· + r.len))
    have e : r.laps = diffs (r.offs ++ (r.offs.take 1).map (· + r.len)) := rfl
    rw [e]
    rw [List.length_append, List.length_map, List.length_take] at this
    omega
  unfold rowText
  by_cases c : r.early.length + r.offs.length = 0
  · rw [if_pos c]
    have : ("never" : Str).length = 5 := by decide
    omega
  · rw [if_neg c]
    have n6 : (numS (if 0 < r.early.length then r.early.getD 0 0 else r.beg + r.offs.getD 0 0)).length ≤ 6 := by
      refine (numS_len ?_ ?_).2
      · by_cases c1 : 0 < r.early.length
        · rw [if_pos c1]
          have m : r.early.getD 0 0 ∈ r.early := by rw [List.getD_eq_getElem?_getD, List.getElem?_eq_getElem c1]; exact List.getElem_mem c1
          exact (w.er _ m).1
        · rw [if_neg c1]
          have ol : 0 < r.offs.length := by omega
          have m : r.offs.getD 0 0 ∈ r.offs := by rw [List.getD_eq_getElem?_getD, List.getElem?_eq_getElem ol]; exact List.getElem_mem ol
          have := w.ow _ m
          omega
      · by_cases c1 : 0 < r.early.length
        · rw [if_pos c1]
          have m : r.early.getD 0 0 ∈ r.early := by rw [List.getD_eq_getElem?_getD, List.getElem?_eq_getElem c1]; exact List.getElem_mem c1
          have := w.er _ m
          omega
        · rw [if_neg c1]
          have ol : 0 < r.offs.length := by omega
          have m : r.offs.getD 0 0 ∈ r.offs := by rw [List.getD_eq_getElem?_getD, List.getElem?_eq_getElem ol]; exact List.getElem_mem ol
          have := w.ow _ m
          omega
    have b2 : (" |" : Str).length = 2 := by decide
    by_cases c2 : 0 < r.offs.length
    · rw [if_pos c2, sL, sL, sL, b2]; omega
    · rw [if_neg c2, eS, sL]; omega
end TkL


namespace TkL
open PySem PySem.Spec PySem.Calls PyProof.Rows L2
section
variable {prog : Program} {w : World} {A : Around} {E : Value → Shared → Prop} {s : Shared}
theorem mb_own (a : Addr) : MeetsIn prog w (Builtin.«bool.__new__» ⟨[.type "bool", .ref a], []⟩) (fun A R s => wpAny (model prog w) A.in1 (truthy (.ref a)) (fun b s' => R (.ok (.ret (.bool b))) s') (fun e s' => R (.error e) s') s) :=
  .of_wp fun A R s h => by
    have f1 := F.conv_sub_bool
    have h2 : wpAny (model prog w) A.in1 (truthy (.ref a)) (fun b s' => wpAny (model prog w) A.in1 (ret (.bool b)) (fun fin s' => ∃ v, fin = .done (.ret v) ∧ R (.ok (.ret v)) s') (fun e s' => R (.error e) s') s') (fun e s' => R (.error e) s') s :=
      wpAny_mono h (fun b s' q => wpAny_pure ⟨_, rfl, q⟩) fun _ _ x => x
    obtain ⟨hp, g, d, tk, os⟩ := s
    unfold Builtin.«bool.__new__»
    repeat (any_goals (first | assumption | (with_reducible refine wpAny_bind ?_; exact h2) | wp_step))
theorem call_bool_own {a : Addr} {Q : Value → Shared → Prop} (h : wpAny (model prog w) A.in1.in1 (truthy (.ref a)) (fun b s' => Q (.bool b) s') E s) : wpAny (model prog w) A (call (.type "bool") [.ref a]) Q E s :=
  callType_newIn F.called_bool F.newNe_bool (F.typeCall_bool_1 _) (F.newCall_bool_1 _) (fun obj => F.args_object_init_2 obj _) F.entry_bool_new (mb_own a) (wpAny_mono h (fun b s' q => ⟨rfl, q⟩) fun _ _ x => x)
end
section
variable {X : Cx} {CX : CXT} {k : Nat} {C : Addr} {ps : List Str} {sp : Sp} {E : XK}
def kBoolO (C : Addr) (sp : Sp) (E : XK) : List V → Hp → VK → Prop := fun xs H Q => ∃ x, xs = [x] ∧ rOwnTru C sp E x H fun c H' => Q (.bl c) H'
theorem run_in2 {pins : List (Addr × Obj)} {σ : L2.St} {H : Hp} {s : Shared} {Q : VK} {f : Addr} {us : List Value} {vs : List V} (G : FnR X.prog X.w X.K X.mg X.base CX k f sp) (hr : Room (k + 2) X.A) (hx : Passes CX X E) (I : Inv X pins σ H s) (r : Vals vs us) (h : sp vs H Q E) :
    wpAny (model X.prog X.w) X.A.in1.in1 (call (.ref f) us) (EP X pins σ Q) X.xe s := by
  refine wpAny_call (codeAny_mono (G X.A.in1.in1 X.stack s H us vs Q E hr.in1.in1 I.env0.in1.in1 r h) fun r s' hq => ?_)
  cases r with
  | error e => exact hx pins σ H s e s' I hq
  | ok fl =>
    cases fl with
    | ret u => exact I.after hq
    | next => exact False.elim hq
    | brk => exact False.elim hq
    | cont => exact False.elim hq
theorem c_boolO (F : MetN X.prog X.w X.K X.mg X.base CX k C "__bool__" ps sp) (hr : Room (k + 2) X.A) (hx : Passes CX X E) : CallR X (.type "bool") (kBoolO C sp E) := by
  intro pins s σ H vs us Q I r h
  obtain ⟨x, rfl, a, dx, fs, rfl, ha, h⟩ := h
  rw [Vals.ref1 r]
  obtain ⟨f, e1, e2, e3, G⟩ := F.raw
  obtain ⟨mA, O, _⟩ := ins_get I.hok ha
  obtain ⟨od, J, _⟩ := O.look
  obtain ⟨mf, Fr⟩ := I.fr
  refine call_bool_own (PySem.W.truthy_K Fr I.ok.mod.kin J e1 e2 (wpAny_mono (run_in2 (us := [.ref a]) (vs := [.ref a]) G hr hx I (.cons rfl .nil) h) (fun v s' hq => ?_) fun _ _ z => z))
  obtain ⟨v', H', I', rv, c, ev, q⟩ := hq
  subst ev
  cases rv
  exact ⟨.bl c, H', I', rfl, q⟩
def tNotO (C : Addr) (sp : Sp) (E : XK) (ta : TE) : TE := fun σ H Q => ta σ H fun x H1 => rOwnTru C sp E x H1 fun c H2 => Q (.bl (!c)) H2
theorem pe_notO {a : Expr} {ta : TE} {pos : Pos} (F : MetN X.prog X.w X.K X.mg X.base CX k C "__bool__" ps sp) (hr : Room k X.A) (hx : Passes CX X E) (ha : PE X a ta) : PE X (.UnaryOp .Not a pos) (tNotO C sp E ta) := by
  refine ⟨fun pins s σ H Q I h => ?_⟩
  refine UnaryOp_ (thn (ha.run pins s σ H _ I h) fun v s1 ⟨x, H1, I1, r1, q1⟩ => ?_)
  exact not_of (thn (tru_own F hr hx I1 r1 q1) fun c s2 ⟨H2, I2, q2⟩ => ⟨.bl (!c), H2, I2, rfl, q2⟩)
def rSumT (K : PySem.W.Frag) : List V → Hp → VK → Prop := fun vs H Q => ∃ (a : Addr) (ns : List Int), vs = [V.ref a] ∧ SqT K H a (ns.map V.int) ∧ Q (.int ns.sum) H
theorem cr_sumT (hc : X.calm = true) : CallR X (.builtin "sum") (rSumT X.K) := by
  intro pins s σ H vs us Q I r h
  obtain ⟨a, ns, rfl, hs, q⟩ := h
  obtain ⟨its, rv, hl, hz⟩ := I.tuple hs
  rw [Vals.ref1 r]
  have hi := rv.ints
  obtain ⟨xs, e⟩ := hi.allInts.items
  have hn : numsOf (intItems xs).toList = ns := by rw [← e]; exact hi.numsOf
  rw [nums_intItems] at hn
  have hl' : s.heap.IsTuple a its.toArray := hl
  rw [e] at hl'
  refine PySem.W.ktm_sumG (I.ok.hd hc) hl' fun h' tk t' hk => ?_
  rw [preSum_eq, List.take_of_length_le (by simp), hn]
  exact ⟨.int _, H, I.kept hk, ⟨_, rfl⟩, q⟩
end
end TkL


namespace TkL
open PySem PySem.Spec PyProof.Rows L2
theorem tuple_mul1 (l : Addr) (items : Array Value) (n : Nat) (dd : Option Addr) (sl : Array (Option Value)) (u : Tok) :
    Meets (Builtin.«tuple.__mul__» ⟨[.ref l, .int 1 u], []⟩) (fun _ R s => s.heap.get? l = some { cls := .type "tuple", dict := dd, data := .seq items n, slots := sl } ∧ R (.ok (.ret (Value.ref l))) s) :=
  .of_wp fun prog w A R s h => by
    obtain ⟨hp, g, d, tk, os⟩ := s
    obtain ⟨hl, h⟩ := h
    have f1 := AutoSeq1.idx_int
    have c1 : (items.isEmpty || (1 : Int) == 1) = true := by rw [Bool.or_eq_true]; exact .inr rfl
    wp_walk using wpAny_loadPart' hl
    repeat (first
      | (refine wpAny_ite_true (decide_eq_true c1) ?_; wp_walk using wpAny_loadPart' hl)
      | (refine wpAny_ite_false (decide_eq_false (by decide)) ?_; wp_walk using wpAny_loadPart' hl))
    exact ⟨_, rfl, h⟩
def rRepA (K : PySem.W.Frag) : R2 := fun x y H Q => rRepT K x y H Q ∨ ∃ l xs, x = .ref l ∧ y = .int 1 ∧ SqT K H l xs ∧ Q (.ref l) H
theorem op_repA {X : Cx} : OpR X (binaryOp .Mult) (rRepA X.K) := by
  intro pins s σ H x y v u Q I rx ry h
  rcases h with h | ⟨l, xs, rfl, rfl, hT, q⟩
  · exact op_repT pins s σ H x y v u Q I rx ry h
  cases rx
  obtain ⟨t, rfl⟩ := ry
  obtain ⟨its, r, ⟨⟨cls, dd, data, sl⟩, ho, hc, n, hd⟩, hs⟩ := I.tuple hT
  simp only at hc hd
  subst hc hd
  refine wpAny_binaryOp_repeat_ref (T := "tuple") (U := "int") (by decide) ⟨_, ho, rfl⟩ (fun s' => typeIs_int s' 1 t) noFill_tuple_mul F.fills_int_mul F.slot_int_rmul repeat_tuple F.slot_int_index.lookup
    (call_meets F.slot_int_rmul (typeIs_int s 1 t) F.entry_int_rmul (F.args_int_rmul_2 _ _) (int_rmul_tuple 1 t l its.toArray n dd sl)
      ⟨ho, rfl, ⟨_, ho, rfl⟩, call_meets F.slot_tuple_mul ⟨_, ho, rfl⟩ F.entry_tuple_mul (F.args_tuple_mul_2 _ _) (tuple_mul1 l its.toArray n dd sl t) ⟨ho, ?_⟩⟩)
  exact ⟨.ref l, H, I, rfl, q⟩
end TkL


namespace TkL
open PySem PySem.Spec PySem.Calls PyProof.Rows L2
section
variable {X : Cx} {CX : CXT} {k : Nat} {C : Addr} {ps : List Str} {sp : Sp} {E : XK}
def rOwnS (C : Addr) (sp : Sp) (E : XK) : R2 := fun x y H Q => ∃ a dx fs z, x = .ref a ∧ y = .str z ∧ H a = some (.ins C dx fs) ∧ sp [x, y] H Q E
theorem op_eqOwnS (hu : X.A.units + 2 < cLine) (nf : PySem.W.notFirst X.K C (.type "str") = true) (F : MetN X.prog X.w X.K X.mg X.base CX k C "__eq__" ps sp) (hr : Room k X.A) (hx : Passes CX X E) : OpR X (compareOp .Eq) (rOwnS C sp E) := by
  intro pins s σ H x y v u Q I rx ry h
  obtain ⟨a, dx, fs, z, rfl, rfl, ha, h⟩ := h
  cases rx
  have ry0 := ry
  obtain ⟨t0, rfl⟩ := ry
  obtain ⟨f, e1, e2, e3, G⟩ := F.raw
  obtain ⟨mA, O, _⟩ := ins_get I.hok ha
  obtain ⟨od, J, _⟩ := O.look
  obtain ⟨mf, Fr⟩ := I.fr
  refine PySem.W.cmp_K (op := .Eq) (Nat.lt_of_le_of_lt (Nat.le_add_right _ 2) hu) Fr I.ok.mod.kin J (fun A Q E s0 k q => by exact (by unfold typeOf; exact wpAny_pure q)) nf e1 e2 (wpAny_call ?_)
  refine codeAny_mono (run_fnR (vs := [.ref a, .str z]) G hr hx I (.cons rfl (.cons ry0 .nil)) h) fun r s' hq => ?_
  cases r with
  | error e => exact hq
  | ok fl =>
    cases fl with
    | ret u => exact ep_back hq
    | next => exact hq
    | brk => exact hq
    | cont => exact hq
end
end TkL


namespace TkL
open PySem PySem.Spec PySem.Calls PyProof.Rows L2 Tk
section
variable {K : PySem.W.Frag} {C : Addr}
def spEqS (K : PySem.W.Frag) (C : Addr) : Sp := fun vs H Q _ => ∃ a r z, vs = [.ref a, .str z] ∧ RowAt K C H a r ∧ Q (.bl false) H
theorem rdReqS (T : TyF K C) (hs : PySem.W.kitOne K (.type "str") (.ref C) = some false) (vs : List V) (H : Hp) (Q : VK) (E : XK) (h : spEqS K C vs H Q E) : tReq K C { nx := fun _ H' => Q .non H', rt := Q } (start ["self", "other"] vs) H := by
  unfold tReq
  obtain ⟨a, r, z, rfl, ⟨dx, p1, p2, p3, p4, I⟩, h⟩ := h
  walk_at "rd"
  refine kisi (.base (.str _)) (.own C) hs ?_
  walk_at "rd"
  first | exact iteF h | (refine iteF ?_; walk_at "rd"; exact h) | exact h
end
end TkL


namespace TkL
open PySem PySem.Spec PySem.Calls PyProof.Rows L2 Tk
inductive D where
  | int (i : Int) | bl (b : Bool) | str (s : Str) | non | cls | src
  | tup (l : List D) | lst (l : List D)
  | row (r : RV)
  | mrk (ks : List Int)
inductive Sl where
  | no | val (d : D) | own (l : List D)
abbrev Env := List Sl
structure Bs where
  K : PySem.W.Frag
  C : Addr
  dO : Option Addr
  H0 : Hp
  F0 : Hp
mutual
inductive Rep (K : PySem.W.Frag) (C : Addr) (dO : Option Addr) : Hp → V → D → Prop
  | int {F i} : Rep K C dO F (.int i) (.int i)
  | bl {F b} : Rep K C dO F (.bl b) (.bl b)
  | str {F s} : Rep K C dO F (.str s) (.str s)
  | non {F} : Rep K C dO F .non .non
  | cls {F} : Rep K C dO F (.ref C) .cls
  | src {F a} : dO = some a → Rep K C dO F (.ref a) .src
  | tup {F p vs ds} : SqT K F p vs → Reps K C dO F vs ds → Rep K C dO F (.ref p) (.tup ds)
  | lst {F p vs ds} : F p = some (.lst vs) → Reps K C dO F vs ds → Rep K C dO F (.ref p) (.lst ds)
  | row {F a r} : RowAt K C F a r → Rep K C dO F (.ref a) (.row r)
  | mrk {F p ks} : F p = some (.dK (mkD ks)) → Rep K C dO F (.ref p) (.mrk ks)
inductive Reps (K : PySem.W.Frag) (C : Addr) (dO : Option Addr) : Hp → List V → List D → Prop
  | nil {F} : Reps K C dO F [] []
  | cons {F v d vs ds} : Rep K C dO F v d → Reps K C dO F vs ds → Reps K C dO F (v :: vs) (d :: ds)
end
theorem RowAt.ex' {K : PySem.W.Frag} {C : Addr} {H H' : Hp} {a : Addr} {r : RV} (I : RowAt K C H a r) (e : Ex H H') : RowAt K C H' a r := by
  obtain ⟨dx, p1, p2, p3, p4, I⟩ := I
  exact ⟨dx, p1, p2, p3, p4, ⟨e _ _ I.ob, e.sqT I.e, e.sqT I.o, e _ _ I.m, e.sqT I.p, I.rb⟩⟩
theorem RowAt.rb {K : PySem.W.Frag} {C : Addr} {H : Hp} {a : Addr} {r : RV} (I : RowAt K C H a r) : RB r := by
  obtain ⟨dx, p1, p2, p3, p4, I⟩ := I
  exact I.rb
section
variable {K : PySem.W.Frag} {C : Addr} {dO : Option Addr} {F F' : Hp}
mutual
theorem Rep.ex {v : V} {d : D} (e : Ex F F') : Rep K C dO F v d → Rep K C dO F' v d
  | .int => .int
  | .bl => .bl
  | .str => .str
  | .non => .non
  | .cls => .cls
  | .src h => .src h
  | .tup h r => .tup (e.sqT h) (Reps.ex e r)
  | .lst h r => .lst (e _ _ h) (Reps.ex e r)
  | .row h => .row (h.ex' e)
  | .mrk h => .mrk (e _ _ h)
theorem Reps.ex {v : List V} {d : List D} (e : Ex F F') : Reps K C dO F v d → Reps K C dO F' v d
  | .nil => .nil
  | .cons h r => .cons (Rep.ex e h) (Reps.ex e r)
end
theorem Reps.len : ∀ {vs : List V} {ds : List D}, Reps K C dO F vs ds → vs.length = ds.length
  | _, _, .nil => rfl
  | _, _, .cons _ r => congrArg (· + 1) r.len
theorem Reps.get : ∀ {vs : List V} {ds : List D} {i : Nat} {v : V}, Reps K C dO F vs ds → vs[i]? = some v → ∃ d, ds[i]? = some d ∧ Rep K C dO F v d
  | _, _, _, _, .nil, e => by simp at e
  | _, _, 0, _, .cons r _, e => by simp at e; subst e; exact ⟨_, rfl, r⟩
  | _, _, i + 1, v, .cons _ t, e => by
    obtain ⟨u, h1, h2⟩ := Reps.get (i := i) (v := v) t (by simpa using e)
    exact ⟨u, by simpa using h1, h2⟩
theorem Reps.get' : ∀ {vs : List V} {ds : List D} {i : Nat} {d : D}, Reps K C dO F vs ds → ds[i]? = some d → ∃ v, vs[i]? = some v ∧ Rep K C dO F v d
  | _, _, _, _, .nil, e => by simp at e
  | _, _, 0, _, .cons r _, e => by simp at e; subst e; exact ⟨_, rfl, r⟩
  | _, _, i + 1, v, .cons _ t, e => by
    obtain ⟨u, h1, h2⟩ := Reps.get' (i := i) (d := v) t (by simpa using e)
    exact ⟨u, by simpa using h1, h2⟩
theorem Reps.app : ∀ {vs us : List V} {ds es : List D}, Reps K C dO F vs ds → Reps K C dO F us es → Reps K C dO F (vs ++ us) (ds ++ es)
  | _, _, _, _, .nil, h => h
  | _, _, _, _, .cons r t, h => .cons r (t.app h)
theorem Reps.take : ∀ {vs : List V} {ds : List D} (n : Nat), Reps K C dO F vs ds → Reps K C dO F (vs.take n) (ds.take n)
  | _, _, 0, _ => .nil
  | _, _, _ + 1, .nil => .nil
  | _, _, n + 1, .cons r t => .cons r (t.take n)
theorem Reps.drop : ∀ {vs : List V} {ds : List D} (n : Nat), Reps K C dO F vs ds → Reps K C dO F (vs.drop n) (ds.drop n)
  | _, _, 0, h => h
  | _, _, _ + 1, .nil => .nil
  | _, _, n + 1, .cons _ t => t.drop n
theorem Reps.setAt : ∀ {vs : List V} {ds : List D} (n : Nat) {v : V} {d : D}, Reps K C dO F vs ds → Rep K C dO F v d → Reps K C dO F (vs.set n v) (ds.set n d)
  | _, _, _, _, _, .nil, _ => .nil
  | _, _, 0, _, _, .cons _ t, h => .cons h t
  | _, _, n + 1, _, _, .cons r t, h => .cons r (t.setAt n h)
theorem Reps.erase : ∀ {vs : List V} {ds : List D} (n : Nat), Reps K C dO F vs ds → Reps K C dO F (vs.eraseIdx n) (ds.eraseIdx n)
  | _, _, _, .nil => .nil
  | _, _, 0, .cons _ t => t
  | _, _, n + 1, .cons r t => .cons r (t.erase n)
theorem Reps.rep {vs : List V} {ds : List D} (h : Reps K C dO F vs ds) : ∀ n : Nat, Reps K C dO F (List.replicate n vs).flatten (List.replicate n ds).flatten
  | 0 => .nil
  | n + 1 => by
    rw [List.replicate_succ, List.replicate_succ, List.flatten_cons, List.flatten_cons]
    exact h.app (h.rep n)
def iL (l : List Int) : List D := l.map D.int
def bL (l : List Bool) : List D := l.map D.bl
def strL (l : List Str) : List D := l.map D.str
theorem Reps.ints : ∀ {l : List Int} {vs : List V}, Reps K C dO F vs (iL l) → vs = l.map V.int
  | [], _, .nil => rfl
  | a :: l, _, .cons .int t => by rw [Reps.ints (l := l) t]; rfl
theorem Reps.bls : ∀ {l : List Bool} {vs : List V}, Reps K C dO F vs (bL l) → vs = l.map V.bl
  | [], _, .nil => rfl
  | a :: l, _, .cons .bl t => by rw [Reps.bls (l := l) t]; rfl
theorem Reps.strs : ∀ {l : List Str} {vs : List V}, Reps K C dO F vs (strL l) → vs = l.map V.str
  | [], _, .nil => rfl
  | a :: l, _, .cons .str t => by rw [Reps.strs (l := l) t]; rfl
theorem Reps.ofInts : ∀ (l : List Int), Reps K C dO F (l.map V.int) (iL l)
  | [] => .nil
  | _ :: l => .cons .int (Reps.ofInts l)
theorem Reps.ofStrs : ∀ (l : List Str), Reps K C dO F (l.map V.str) (strL l)
  | [] => .nil
  | _ :: l => .cons .str (Reps.ofStrs l)
end
def Kpo (dO : Option Addr) (H H' : Hp) : Prop := ∀ x o, some x ≠ dO → H x = some o → H' x = some o
structure RelH (B : Bs) (H F : Hp) : Prop where
  fh : Ex F H
  ff : Ex B.F0 F
  f0 : ∀ x, B.H0 x ≠ none → B.F0 x = none → F x = none
  lk : ∀ x o, H x = some o → F x = none → ∃ l, o = .lst l
  kp : Kpo B.dO B.H0 H
  hd : ∀ d, B.dO = some d → B.H0 d ≠ none
  dd : ∀ d, B.dO = some d → DAt d H ∧ F d = none
structure RelF (B : Bs) (H F : Hp) (σ : L2.St) (ρ : Env) : Prop extends RelH B H F where
  len : σ.length = ρ.length
  val : ∀ (i : Nat) d, ρ[i]? = some (.val d) → ∃ v, σ[i]? = some (some v) ∧ Rep B.K B.C B.dO F v d
  own : ∀ (i : Nat) l, ρ[i]? = some (.own l) → ∃ p vs, σ[i]? = some (some (.ref p)) ∧ B.H0 p = none ∧ F p = none ∧ H p = some (.lst vs) ∧ Reps B.K B.C B.dO F vs l
  inj : ∀ (i j : Nat) l m p, ρ[i]? = some (.own l) → ρ[j]? = some (.own m) → σ[i]? = some (some (.ref p)) → σ[j]? = some (some (.ref p)) → i = j
theorem Kpo.refl {dO : Option Addr} {H : Hp} : Kpo dO H H := fun _ _ _ h => h
theorem Kpo.trans {dO : Option Addr} {H H1 H2 : Hp} (a : Kpo dO H H1) (b : Kpo dO H1 H2) : Kpo dO H H2 := fun x o n h => b x o n (a x o n h)
theorem Ex.kpo {dO : Option Addr} {H H1 : Hp} (a : Ex H H1) : Kpo dO H H1 := fun x o _ h => a x o h
open Classical in
noncomputable def growF (F H H' : Hp) : Hp := fun x => if H x ≠ none ∧ F x = none then none else H' x
theorem growF_none {F H H' : Hp} {x : Addr} (h : H x ≠ none) (f : F x = none) : growF F H H' x = none := by
  unfold growF; rw [if_pos ⟨h, f⟩]
theorem growF_new {F H H' : Hp} {x : Addr} (h : H x = none) : growF F H H' x = H' x := by
  unfold growF; rw [if_neg (fun z => z.1 h)]
theorem growF_some {F H H' : Hp} {x : Addr} (h : F x ≠ none) : growF F H H' x = H' x := by
  unfold growF; rw [if_neg (fun z => h z.2)]
theorem growF_ex {F H H' : Hp} : Ex (growF F H H') H' := fun x o h => by
  by_cases c : H x ≠ none ∧ F x = none
  · rw [growF_none c.1 c.2] at h; cases h
  · unfold growF at h; rw [if_neg c] at h; exact h
section
variable {B : Bs} {H F H' F' : Hp} {σ : L2.St} {ρ : Env}
theorem RelH.d0 (R : RelH B H F) {x : Addr} (h : B.H0 x = none) : some x ≠ B.dO := fun z => R.hd x z.symm h
theorem RelH.dF (R : RelH B H F) {x : Addr} (h : F x ≠ none) : some x ≠ B.dO := fun z => h (R.dd x z.symm).2
theorem DAt.some {d : Addr} (h : DAt d H) : H d ≠ none := by
  obtain ⟨ds, e, _⟩ := h
  rw [e]; exact Option.some_ne_none _
theorem RelH.hn (R : RelH B H F) {x : Addr} (h : B.H0 x ≠ none) : H x ≠ none := by
  by_cases c : some x = B.dO
  · exact (R.dd x c.symm).1.some
  · cases e : B.H0 x with
    | none => exact absurd e h
    | some o => rw [R.kp x o c e]; exact Option.some_ne_none _
theorem RelH.n0 (R : RelH B H F) {x : Addr} (h : H x = none) : B.H0 x = none := by
  cases e : B.H0 x with
  | none => rfl
  | some o => exact absurd h (R.hn (by rw [e]; exact Option.some_ne_none _))
structure St1 (B : Bs) (H F H' F' : Hp) : Prop where
  ex : Ex F F'
  kp : Kpo B.dO H H'
  rel : ∀ σ ρ, RelF B H F σ ρ → RelF B H' F' σ ρ
  relH : RelH B H F → RelH B H' F'
  fz : RelH B H F → ∀ x, H x ≠ none → F x = none → F' x = none
theorem Kpo.nn {H H' F' : Hp} (k : Kpo B.dO H H') (R' : RelH B H' F') {x : Addr} (h : H x ≠ none) : H' x ≠ none := by
  by_cases c : some x = B.dO
  · exact (R'.dd x c.symm).1.some
  · cases e : H x with
    | none => exact absurd e h
    | some o => rw [k x o c e]; exact Option.some_ne_none _
theorem St1.refl : St1 B H F H F := ⟨Ex.refl _, Kpo.refl, fun _ _ h => h, fun h => h, fun _ _ _ h => h⟩
theorem St1.trans {H1 F1 : Hp} (a : St1 B H F H1 F1) (b : St1 B H1 F1 H' F') : St1 B H F H' F' := ⟨a.ex.trans b.ex, a.kp.trans b.kp, fun σ ρ h => b.rel σ ρ (a.rel σ ρ h), fun h => b.relH (a.relH h), fun R x h1 h2 => b.fz (a.relH R) x (a.kp.nn (a.relH R) h1) (a.fz R x h1 h2)⟩
theorem St1.mk' (R : RelH B H F) (kp : Kpo B.dO H H') (dd : ∀ d, B.dO = some d → DAt d H') (ex : Ex F F') (fh : Ex F' H') (f0 : ∀ x, H x ≠ none → F x = none → F' x = none) (lk : ∀ x o, H' x = some o → F' x = none → ∃ l, o = .lst l) : St1 B H F H' F' := by
  have rh : RelH B H F → RelH B H' F' := fun R => ⟨fh, R.ff.trans ex, fun x a b => f0 x (R.hn a) (R.f0 x a b), lk, R.kp.trans kp, R.hd, fun d e => ⟨dd d e, f0 d (R.dd d e).1.some (R.dd d e).2⟩⟩
  refine ⟨ex, kp, fun σ ρ r => ⟨rh r.toRelH, r.len, fun i d e => ?_, fun i l e => ?_, r.inj⟩, rh, fun _ => f0⟩
  · obtain ⟨v, a, b⟩ := r.val i d e
    exact ⟨v, a, b.ex ex⟩
  · obtain ⟨p, vs, a, b, c, d, g⟩ := r.own i l e
    exact ⟨p, vs, a, b, f0 p (by rw [d]; exact Option.some_ne_none _) c, kp p _ (r.d0 b) d, g.ex ex⟩
theorem growF_get (R : RelH B H F) (kp : Kpo B.dO H H') (dd : ∀ d, B.dO = some d → DAt d H') {x : Addr} {o : HO} (h : H' x = some o) (n : ∀ l, o ≠ .lst l) : growF F H H' x = some o := by
  by_cases c : H x ≠ none ∧ F x = none
  · exfalso
    by_cases cd : some x = B.dO
    · obtain ⟨ds, e, _⟩ := dd x cd.symm
      rw [h] at e
      exact n _ (Option.some.inj e)
    · cases e : H x with
      | none => exact c.1 e
      | some u =>
        obtain ⟨l, rfl⟩ := R.lk x u e c.2
        rw [kp x _ cd e] at h
        exact n l (Option.some.inj h).symm
  · unfold growF; rw [if_neg c]; exact h
theorem St1.grow (R : RelH B H F) (kp : Kpo B.dO H H') (dd : ∀ d, B.dO = some d → DAt d H') : St1 B H F H' (growF F H H') := by
  refine St1.mk' R kp dd (fun x o h => ?_) growF_ex (fun x a b => growF_none a b) (fun x o h g => ?_)
  · have hn : F x ≠ none := by rw [h]; exact Option.some_ne_none _
    rw [growF_some hn]
    exact kp x o (R.dF hn) (R.fh x o h)
  · refine Classical.byContradiction fun n => ?_
    rw [growF_get R kp dd h (fun l z => n ⟨l, z⟩)] at g
    cases g
theorem St1.growE (R : RelH B H F) (e : Ex H H') : St1 B H F H' (growF F H H') := St1.grow R e.kpo fun d h => by
  obtain ⟨ds, a, b⟩ := (R.dd d h).1
  exact ⟨ds, e _ _ a, b⟩
theorem growF_at {p : Addr} {o : HO} (hp : H p = none) : growF F H (upd H p o) p = some o := by rw [growF_new hp, upd_same]
theorem growF_old (e : Ex F H') : Ex F (growF F H H') := fun x o h => by
  have hn : F x ≠ none := by rw [h]; exact Option.some_ne_none _
  rw [growF_some hn]
  exact e x o h
theorem growF_row (R : RelH B H F) (kp : Kpo B.dO H H') (dd : ∀ d, B.dO = some d → DAt d H') {a : Addr} {r : RV} (h : RowAt B.K B.C H' a r) : RowAt B.K B.C (growF F H H') a r := by
  obtain ⟨dx, p1, p2, p3, p4, I⟩ := h
  have gt : ∀ {p : Addr} {xs : List V}, SqT B.K H' p xs → SqT B.K (growF F H H') p xs := fun h => by
    rcases h with (h | ⟨o, h⟩) | h
    · exact .inl (.inl (growF_get R kp dd h fun l z => nomatch z))
    · exact .inl (.inr ⟨o, growF_get R kp dd h fun l z => nomatch z⟩)
    · exact .inr h
  exact ⟨dx, p1, p2, p3, p4, ⟨growF_get R kp dd I.ob (fun l z => nomatch z), gt I.e, gt I.o, growF_get R kp dd I.m (fun l z => nomatch z), gt I.p, I.rb⟩⟩
end
structure Kq (B : Bs) (σ : L2.St) (H F : Hp) (ρ : Env) (H' F' : Hp) (ρ' : Env) : Prop where
  kp : Kpo B.dO H H'
  nn : ∀ x, H x ≠ none → H' x ≠ none
  ow : ∀ (i : Nat) l, ρ'[i]? = some (.own l) → ∃ l', ρ[i]? = some (.own l')
  pr : ∀ x, H x ≠ none → F x = none → (∀ (i : Nat) l, ρ[i]? = some (.own l) → σ[i]? ≠ some (some (.ref x))) → F' x = none
theorem Kq.refl {B : Bs} {σ : L2.St} {H F : Hp} {ρ : Env} : Kq B σ H F ρ H F ρ := ⟨Kpo.refl, fun _ h => h, fun _ l h => ⟨l, h⟩, fun _ _ h _ => h⟩
theorem Kq.trans {B : Bs} {σ : L2.St} {H F H1 F1 H2 F2 : Hp} {ρ ρ1 ρ2 : Env} (a : Kq B σ H F ρ H1 F1 ρ1) (b : Kq B σ H1 F1 ρ1 H2 F2 ρ2) : Kq B σ H F ρ H2 F2 ρ2 :=
  ⟨a.kp.trans b.kp, fun x h => b.nn x (a.nn x h), fun i l h => by
    obtain ⟨m, h1⟩ := b.ow i l h
    exact a.ow i m h1, fun x h1 h2 h3 => b.pr x (a.nn x h1) (a.pr x h1 h2 h3) fun i l h => by
    obtain ⟨m, h4⟩ := a.ow i l h
    exact h3 i m h4⟩
theorem St1.kq {B : Bs} {σ : L2.St} {H F H' F' : Hp} {ρ : Env} (s : St1 B H F H' F') (R : RelF B H F σ ρ) : Kq B σ H F ρ H' F' ρ :=
  ⟨s.kp, fun x h => s.kp.nn (s.relH R.toRelH) h, fun _ l h => ⟨l, h⟩, fun x h1 h2 _ => s.fz R.toRelH x h1 h2⟩
section
variable {B : Bs} {H F H' F' : Hp} {σ : L2.St} {ρ : Env}
theorem RelF.setG (R : RelF B H F σ ρ) {i : Nat} {x : Option V} {s : Sl} (hv : ∀ d, s = .val d → ∃ v, x = some v ∧ Rep B.K B.C B.dO F v d)
    (ho : ∀ l, s = .own l → ∃ p vs, x = some (.ref p) ∧ B.H0 p = none ∧ F p = none ∧ H p = some (.lst vs) ∧ Reps B.K B.C B.dO F vs l ∧ ∀ (j : Nat) m, j ≠ i → ρ[j]? = some (.own m) → σ[j]? ≠ some (some (.ref p))) : RelF B H F (σ.set i x) (ρ.set i s) := by
  have hl := R.len
  refine ⟨R.toRelH, by rw [List.length_set, List.length_set]; exact R.len, fun j d e => ?_, fun j l e => ?_, fun j k l m p e1 e2 h1 h2 => ?_⟩
  · rw [List.getElem?_set] at e ⊢
    by_cases c : i = j
    · rw [if_pos c] at e ⊢
      split at e
      · obtain ⟨v, a, b⟩ := hv d (Option.some.inj e)
        rw [if_pos (by omega), a]; exact ⟨v, rfl, b⟩
      · cases e
    · rw [if_neg c] at e ⊢
      exact R.val j d e
  · rw [List.getElem?_set] at e ⊢
    by_cases c : i = j
    · rw [if_pos c] at e ⊢
      split at e
      · obtain ⟨p, vs, a, b, g, f, k, _⟩ := ho l (Option.some.inj e)
        rw [if_pos (by omega), a]; exact ⟨p, vs, rfl, b, g, f, k⟩
      · cases e
    · rw [if_neg c] at e ⊢
      exact R.own j l e
  · rw [List.getElem?_set] at e1 e2 h1 h2
    by_cases c1 : i = j
    · by_cases c2 : i = k
      · omega
      · rw [if_pos c1] at e1 h1
        rw [if_neg c2] at e2 h2
        split at e1
        · obtain ⟨p', vs, a, _, _, _, _, nq⟩ := ho l (Option.some.inj e1)
          rw [if_pos (by omega), a] at h1
          cases h1
          exact absurd h2 (nq k m (fun z => c2 z.symm) e2)
        · cases e1
    · by_cases c2 : i = k
      · rw [if_neg c1] at e1 h1
        rw [if_pos c2] at e2 h2
        split at e2
        · obtain ⟨p', vs, a, _, _, _, _, nq⟩ := ho m (Option.some.inj e2)
          rw [if_pos (by omega), a] at h2
          cases h2
          exact absurd h1 (nq j l (fun z => c1 z.symm) e1)
        · cases e2
      · rw [if_neg c1] at e1 h1
        rw [if_neg c2] at e2 h2
        exact R.inj j k l m p e1 e2 h1 h2
theorem RelF.setV (R : RelF B H F σ ρ) {i : Nat} {v : V} {d : D} (h : Rep B.K B.C B.dO F v d) : RelF B H F (σ.set i (some v)) (ρ.set i (.val d)) :=
  R.setG (fun d' e => by cases e; exact ⟨v, rfl, h⟩) (fun l e => nomatch e)
theorem RelF.setN (R : RelF B H F σ ρ) {i : Nat} {x : Option V} : RelF B H F (σ.set i x) (ρ.set i .no) :=
  R.setG (fun d' e => nomatch e) (fun l e => nomatch e)
theorem set_self {α : Type} {l : List α} {i : Nat} {a : α} (h : l[i]? = some a) : l.set i a = l := by
  apply List.ext_getElem?
  intro j
  rw [List.getElem?_set]
  split
  · rename_i c
    subst c
    split
    · exact h.symm
    · rw [List.getElem?_eq_none (by omega)]
  · rfl
theorem set_none {α : Type} {l : List α} {i : Nat} {a : α} (h : l[i]? = none) : l.set i a = l := List.set_eq_of_length_le (List.getElem?_eq_none_iff.mp h)
theorem RelF.frz (R : RelF B H F σ ρ) {i : Nat} {l : List D} (h : ρ[i]? = some (.own l)) : ∃ F' p, Ex F F' ∧ σ[i]? = some (some (.ref p)) ∧ Rep B.K B.C B.dO F' (.ref p) (.lst l) ∧ RelF B H F' σ (ρ.set i (.val (.lst l))) ∧ ∀ x, x ≠ p → F' x = F x := by
  obtain ⟨p, vs, a, b, c, d, g⟩ := R.own i l h
  have ex : Ex F (upd F p (.lst vs)) := Ex.new c
  have rp : Rep B.K B.C B.dO (upd F p (.lst vs)) (.ref p) (.lst l) := .lst upd_same (g.ex ex)
  refine ⟨upd F p (.lst vs), p, ex, a, rp, ?_, fun x hx => upd_ne hx⟩
  have R1 : RelF B H (upd F p (.lst vs)) σ (ρ.set i .no) := by
    have R0 := R.setN (i := i) (x := some (.ref p))
    rw [set_self a] at R0
    refine ⟨⟨fun x o e => ?_, R.ff.trans ex, fun x h1 h2 => ?_, fun x o h1 h2 => ?_, R.kp, R.hd, fun d' e => ⟨(R.dd d' e).1, ?_⟩⟩, R0.len, fun j d' e => ?_, fun j m e => ?_, R0.inj⟩
    · by_cases cx : x = p
      · rw [cx, upd_same] at e; rw [cx, d]; exact e
      · rw [upd_ne cx] at e; exact R.fh x o e
    · have : x ≠ p := fun z => h1 (by rw [z]; exact b)
      rw [upd_ne this]; exact R.f0 x h1 h2
    · have : x ≠ p := fun z => by rw [z, upd_same] at h2; cases h2
      rw [upd_ne this] at h2; exact R.lk x o h1 h2
    · have : d' ≠ p := fun z => R.hd d' e (by rw [z]; exact b)
      rw [upd_ne this]; exact (R.dd d' e).2
    · obtain ⟨v, q, r⟩ := R0.val j d' e
      exact ⟨v, q, r.ex ex⟩
    · obtain ⟨q, ws, q1, q2, q3, q4, q5⟩ := R0.own j m e
      have : q ≠ p := fun z => by
        subst z
        rw [List.getElem?_set] at e
        by_cases cj : i = j
        · rw [if_pos cj] at e; split at e <;> cases e
        · rw [if_neg cj] at e
          exact cj (R.inj i j l m q h e a q1)
      exact ⟨q, ws, q1, q2, by rw [upd_ne this]; exact q3, q4, q5.ex ex⟩
  have R2 := R1.setV (i := i) rp
  rw [set_self a, List.set_set] at R2
  exact R2
end
end TkL


namespace TkL
open PySem PySem.Spec PySem.Calls PyProof.Rows L2 Tk
abbrev UE := Env → (D → Env → Prop) → Prop
abbrev UT := Env → (Bool → Env → Prop) → Prop
abbrev UA := Env → (List D → Env → Prop) → Prop
abbrev U2 := D → D → (D → Prop) → Prop
abbrev UP := List D → (D → Prop) → Prop
abbrev tPer (i : Nat) : TE := tVar i
def RepW (B : Bs) (F H : Hp) (v : V) : D → Prop
  | .lst l => ∃ p vs, v = .ref p ∧ some p ≠ B.dO ∧ H p = some (.lst vs) ∧ Reps B.K B.C B.dO F vs l
  | d => Rep B.K B.C B.dO F v d
inductive RepsW (B : Bs) (F H : Hp) : List V → List D → Prop
  | nil : RepsW B F H [] []
  | cons {v d vs ds} : RepW B F H v d → RepsW B F H vs ds → RepsW B F H (v :: vs) (d :: ds)
section
variable {B : Bs} {H F H' F' : Hp} {σ : L2.St} {ρ : Env}
theorem RepW.kp {v : V} {d : D} (e : Ex F F') (k : Kpo B.dO H H') (h : RepW B F H v d) : RepW B F' H' v d := by
  cases d with
  | lst l =>
    obtain ⟨p, vs, a, b, c, g⟩ := h
    exact ⟨p, vs, a, b, k p _ b c, g.ex e⟩
  | _ => exact Rep.ex e h
theorem RepsW.kp : ∀ {vs : List V} {ds : List D} (e : Ex F F') (k : Kpo B.dO H H') (h : RepsW B F H vs ds), RepsW B F' H' vs ds
  | _, _, _, _, .nil => .nil
  | _, _, e, k, .cons a t => .cons (a.kp e k) (t.kp e k)
theorem Rep.w {v : V} {d : D} (R : RelH B H F) (h : Rep B.K B.C B.dO F v d) : RepW B F H v d := by
  cases h with
  | lst h r => exact ⟨_, _, rfl, R.dF (by rw [h]; exact Option.some_ne_none _), R.fh _ _ h, r⟩
  | int => exact .int
  | bl => exact .bl
  | str => exact .str
  | non => exact .non
  | cls => exact .cls
  | src h => exact .src h
  | tup h r => exact .tup h r
  | row h => exact .row h
  | mrk h => exact .mrk h
theorem Reps.w (R : RelH B H F) : ∀ {vs : List V} {ds : List D}, Reps B.K B.C B.dO F vs ds → RepsW B F H vs ds
  | _, _, .nil => .nil
  | _, _, .cons a t => .cons (a.w R) (t.w R)
end
def SimE (B : Bs) (t : TE) (u : UE) : Prop := ∀ H F σ ρ (Q : VK) (P : D → Env → Prop), RelF B H F σ ρ → u ρ P →
  (∀ H' F' v d ρ', Ex F F' → Kq B σ H F ρ H' F' ρ' → RelF B H' F' σ ρ' → Rep B.K B.C B.dO F' v d → P d ρ' → Q v H') → t σ H Q
def SimW (B : Bs) (t : TE) (u : UE) : Prop := ∀ H F σ ρ (Q : VK) (P : D → Env → Prop), RelF B H F σ ρ → u ρ P →
  (∀ H' F' v d ρ', Ex F F' → Kq B σ H F ρ H' F' ρ' → RelF B H' F' σ ρ' → RepW B F' H' v d → P d ρ' → Q v H') → t σ H Q
def SimN (B : Bs) (t : TE) (u : UE) : Prop := ∀ H F σ ρ (Q : VK) (P : D → Env → Prop), RelF B H F σ ρ → u ρ P →
  (∀ H' F' p vs l ρ', Ex F F' → Kq B σ H F ρ H' F' ρ' → RelF B H' F' σ ρ' → H p = none → (∀ (i : Nat) l, ρ'[i]? = some (.own l) → σ[i]? ≠ some (some (.ref p))) → F' p = none → H' p = some (.lst vs) → Reps B.K B.C B.dO F' vs l → P (.lst l) ρ' → Q (.ref p) H') → t σ H Q
def SimT (B : Bs) (t : TT) (u : UT) : Prop := ∀ H F σ ρ (Q : Bool → Hp → Prop) (P : Bool → Env → Prop), RelF B H F σ ρ → u ρ P →
  (∀ H' F' c ρ', Ex F F' → Kq B σ H F ρ H' F' ρ' → RelF B H' F' σ ρ' → P c ρ' → Q c H') → t σ H Q
def SimA (B : Bs) (t : TA) (u : UA) : Prop := ∀ H F σ ρ (Q : List V → Hp → Prop) (P : List D → Env → Prop), RelF B H F σ ρ → u ρ P →
  (∀ H' F' v d ρ', Ex F F' → Kq B σ H F ρ H' F' ρ' → RelF B H' F' σ ρ' → RepsW B F' H' v d → P d ρ' → Q v H') → t σ H Q
def SimP (B : Bs) (t : TA) (u : UA) : Prop := ∀ H F σ ρ (Q : List V → Hp → Prop) (P : List D → Env → Prop), RelF B H F σ ρ → u ρ P →
  (∀ H' F' v d ρ', Ex F F' → Kq B σ H F ρ H' F' ρ' → RelF B H' F' σ ρ' → Reps B.K B.C B.dO F' v d → P d ρ' → Q v H') → t σ H Q
def Sim2 (B : Bs) (r : R2) (q : U2) : Prop := ∀ H F x y dx dy (Q : VK) (P : D → Prop), RelH B H F → RepW B F H x dx → RepW B F H y dy → q dx dy P →
  (∀ H' F' v d, St1 B H F H' F' → Rep B.K B.C B.dO F' v d → P d → Q v H') → r x y H Q
def Sim2N (B : Bs) (r : R2) (q : U2) : Prop := ∀ H F x y dx dy (Q : VK) (P : D → Prop), RelH B H F → RepW B F H x dx → RepW B F H y dy → q dx dy P →
  (∀ H' F' p vs l, St1 B H F H' F' → H p = none → F' p = none → H' p = some (.lst vs) → Reps B.K B.C B.dO F' vs l → P (.lst l) → Q (.ref p) H') → r x y H Q
def SimK (B : Bs) (k : List V → Hp → VK → Prop) (g : UP) : Prop := ∀ H F vs ds (Q : VK) (P : D → Prop), RelH B H F → RepsW B F H vs ds → g ds P →
  (∀ H' F' v d, St1 B H F H' F' → Rep B.K B.C B.dO F' v d → P d → Q v H') → k vs H Q
def SimKN (B : Bs) (k : List V → Hp → VK → Prop) (g : UP) : Prop := ∀ H F vs ds (Q : VK) (P : D → Prop), RelH B H F → RepsW B F H vs ds → g ds P →
  (∀ H' F' p vs l, St1 B H F H' F' → H p = none → F' p = none → H' p = some (.lst vs) → Reps B.K B.C B.dO F' vs l → P (.lst l) → Q (.ref p) H') → k vs H Q
def uC (d : D) : UE := fun ρ P => P d ρ
def uVar (i : Nat) : UE := fun ρ P => match ρ[i]? with | some (.val d) => P d ρ | some (.own l) => P (.lst l) ρ | _ => False
def uPer (i : Nat) : UE := fun ρ P => match ρ[i]? with | some (.val d) => P d ρ | some (.own l) => P (.lst l) (ρ.set i (.val (.lst l))) | _ => False
def uOp (q : U2) (a b : UE) : UE := fun ρ P => a ρ fun x ρ1 => b ρ1 fun y ρ2 => q x y fun z => P z ρ2
def uUn (q : D → (D → Prop) → Prop) (a : UE) : UE := fun ρ P => a ρ fun x ρ1 => q x fun z => P z ρ1
def uNil : UA := fun ρ P => P [] ρ
def uCons (a : UE) (b : UA) : UA := fun ρ P => a ρ fun x ρ1 => b ρ1 fun xs ρ2 => P (x :: xs) ρ2
def uCB (g : UP) (a : UA) : UE := fun ρ P => a ρ fun xs ρ1 => g xs fun z => P z ρ1
def uIf (c : UT) (a b : UE) : UE := fun ρ P => c ρ fun k ρ1 => if k = true then a ρ1 P else b ρ1 P
def uAndV (a b : UE) : UE := fun ρ P => a ρ fun x ρ1 => ∃ c, x = .bl c ∧ if c = true then b ρ1 P else P (.bl false) ρ1
def uOrV (a b : UE) : UE := fun ρ P => a ρ fun x ρ1 => ∃ c, x = .bl c ∧ if c = true then P (.bl true) ρ1 else b ρ1 P
def uNotV (a : UE) : UE := fun ρ P => a ρ fun x ρ1 => ∃ c, x = .bl c ∧ P (.bl (!c)) ρ1
def uB (a : UE) : UT := fun ρ P => a ρ fun x ρ1 => ∃ c, x = .bl c ∧ P c ρ1
def uAnd (a b : UT) : UT := fun ρ P => a ρ fun c ρ1 => if c = true then b ρ1 P else P false ρ1
def uOr (a b : UT) : UT := fun ρ P => a ρ fun c ρ1 => if c = true then P true ρ1 else b ρ1 P
def uNot (a : UT) : UT := fun ρ P => a ρ fun c ρ1 => P (!c) ρ1
def uChain (q q' : U2) (a b c : UE) : UE := fun ρ P => a ρ fun x ρ1 => b ρ1 fun y ρ2 => q x y fun z => ∃ k, z = .bl k ∧ if k = true then c ρ2 fun w ρ3 => q' y w fun z => P z ρ3 else P (.bl false) ρ2
def uTup (a : UA) : UE := fun ρ P => a ρ fun xs ρ1 => xs.length ≤ 1000000 ∧ P (.tup xs) ρ1
def uLst (a : UA) : UE := fun ρ P => a ρ fun xs ρ1 => xs.length ≤ 1000000 ∧ P (.lst xs) ρ1
section
variable {B : Bs} {t ta tb tc : TE} {u ua ub uc : UE} {tt tt' : TT} {ut ut' : UT} {A : TA} {U : UA}
theorem SimE.w (h : SimE B t u) : SimW B t u := fun H F σ ρ Q P R hu k => h H F σ ρ Q P R hu fun H' F' v d ρ' e kp R' rp p => k H' F' v d ρ' e kp R' (rp.w R'.toRelH) p
theorem RelF.frzN {H F : Hp} {σ : L2.St} {ρ : Env} (R : RelF B H F σ ρ) {p : Addr} {vs : List V} (h0 : B.H0 p = none) (hn : ∀ (i : Nat) l, ρ[i]? = some (.own l) → σ[i]? ≠ some (some (.ref p))) (hF : F p = none) (hH : H p = some (.lst vs)) : Ex F (upd F p (.lst vs)) ∧ RelF B H (upd F p (.lst vs)) σ ρ := by
  have ex : Ex F (upd F p (.lst vs)) := Ex.new hF
  refine ⟨ex, ⟨⟨fun x o e => ?_, R.ff.trans ex, fun x h1 h2 => ?_, fun x o h1 h2 => ?_, R.kp, R.hd, fun d' e => ⟨(R.dd d' e).1, ?_⟩⟩, R.len, fun j d' e => ?_, fun j m e => ?_, R.inj⟩⟩
  · by_cases cx : x = p
    · rw [cx, upd_same] at e; rw [cx, hH]; exact e
    · rw [upd_ne cx] at e; exact R.fh x o e
  · have : x ≠ p := fun z => h1 (by rw [z]; exact h0)
    rw [upd_ne this]; exact R.f0 x h1 h2
  · have : x ≠ p := fun z => by rw [z, upd_same] at h2; cases h2
    rw [upd_ne this] at h2; exact R.lk x o h1 h2
  · have : d' ≠ p := fun z => R.hd d' e (by rw [z]; exact h0)
    rw [upd_ne this]; exact (R.dd d' e).2
  · obtain ⟨v, q, r⟩ := R.val j d' e
    exact ⟨v, q, r.ex ex⟩
  · obtain ⟨q, ws, q1, q2, q3, q4, q5⟩ := R.own j m e
    have : q ≠ p := fun z => by
      subst z
      exact hn j m e q1
    exact ⟨q, ws, q1, q2, by rw [upd_ne this]; exact q3, q4, q5.ex ex⟩
theorem RelF.fresh {H H' F F' : Hp} {σ : L2.St} {ρ ρ' : Env} (R : RelF B H F σ ρ) (R' : RelF B H' F' σ ρ') {p : Addr} (hp : H p = none) (hρ : ∀ (i : Nat) l, ρ'[i]? = some (.own l) → ρ[i]? = some (.own l)) : ∀ (i : Nat) l, ρ'[i]? = some (.own l) → σ[i]? ≠ some (some (.ref p)) := fun i l e z => by
  obtain ⟨q, vs, a, _, _, d, _⟩ := R.own i l (hρ i l e)
  rw [z] at a
  cases a
  rw [hp] at d; cases d
theorem sE_c {v : V} {d : D} (h : ∀ F, Rep B.K B.C B.dO F v d) : SimE B (tC v) (uC d) := fun H F σ ρ Q P R hu k => k H F v d ρ (Ex.refl _) Kq.refl R (h F) hu
theorem sE_int {i : Int} : SimE B (tC (.int i)) (uC (.int i)) := sE_c fun _ => .int
theorem sE_bl {i : Bool} : SimE B (tC (.bl i)) (uC (.bl i)) := sE_c fun _ => .bl
theorem sE_str {i : Str} : SimE B (tC (.str i)) (uC (.str i)) := sE_c fun _ => .str
theorem sE_non : SimE B (tC .non) (uC .non) := sE_c fun _ => .non
theorem sE_cls : SimE B (tC (.ref B.C)) (uC .cls) := sE_c fun _ => .cls
theorem sW_var {i : Nat} : SimW B (tVar i) (uVar i) := fun H F σ ρ Q P R hu k => by
  unfold uVar at hu
  cases e : ρ[i]? with
  | none => rw [e] at hu; exact hu.elim
  | some s =>
    rw [e] at hu
    cases s with
    | no => exact hu.elim
    | val d =>
      obtain ⟨v, a, b⟩ := R.val i d e
      exact ⟨v, a, k H F v d ρ (Ex.refl _) Kq.refl R (b.w R.toRelH) hu⟩
    | own l =>
      obtain ⟨p, vs, a, b, c, d, g⟩ := R.own i l e
      exact ⟨_, a, k H F _ (.lst l) ρ (Ex.refl _) Kq.refl R ⟨p, vs, rfl, R.d0 b, d, g⟩ hu⟩
theorem sE_per {i : Nat} : SimE B (tVar i) (uPer i) := fun H F σ ρ Q P R hu k => by
  unfold uPer at hu
  cases e : ρ[i]? with
  | none => rw [e] at hu; exact hu.elim
  | some s =>
    rw [e] at hu
    cases s with
    | no => exact hu.elim
    | val d =>
      obtain ⟨v, a, b⟩ := R.val i d e
      exact ⟨v, a, k H F v d ρ (Ex.refl _) Kq.refl R b hu⟩
    | own l =>
      obtain ⟨F', p, ex, a, b, c, nx⟩ := R.frz e
      refine ⟨_, a, k H F' _ (.lst l) _ ex ⟨Kpo.refl, fun _ h => h, fun j m h => ?_, fun x h1 h2 h3 => ?_⟩ c b hu⟩
      · rw [List.getElem?_set] at h
        by_cases cj : i = j
        · rw [if_pos cj] at h; split at h <;> cases h
        · rw [if_neg cj] at h; exact ⟨m, h⟩
      · rw [nx x fun z => by subst z; exact h3 i l e a]; exact h2
theorem sE_op {r : R2} {q : U2} (h : Sim2 B r q) (ha : SimW B ta ua) (hb : SimW B tb ub) : SimE B (tOp r ta tb) (uOp q ua ub) := fun H F σ ρ Q P R hu k =>
  ha H F σ ρ _ _ R hu fun H1 F1 x dx ρ1 e1 k1 R1 r1 p1 => hb H1 F1 σ ρ1 _ _ R1 p1 fun H2 F2 y dy ρ2 e2 k2 R2 r2 p2 =>
    h H2 F2 x y dx dy _ _ R2.toRelH (r1.kp e2 k2.kp) r2 p2 fun H3 F3 v d s rp p3 => k H3 F3 v d ρ2 (e1.trans (e2.trans s.ex)) (k1.trans (k2.trans (s.kq R2))) (s.rel _ _ R2) rp p3
theorem sE_un {r : V → Hp → VK → Prop} {q : D → (D → Prop) → Prop} (h : ∀ H F x dx (Q : VK) (P : D → Prop), RelH B H F → RepW B F H x dx → q dx P → (∀ H' F' v d, St1 B H F H' F' → Rep B.K B.C B.dO F' v d → P d → Q v H') → r x H Q) (ha : SimW B ta ua) : SimE B (tUn r ta) (uUn q ua) := fun H F σ ρ Q P R hu k =>
  ha H F σ ρ _ _ R hu fun H1 F1 x dx ρ1 e1 k1 R1 r1 p1 => h H1 F1 x dx _ _ R1.toRelH r1 p1 fun H3 F3 v d s rp p3 => k H3 F3 v d ρ1 (e1.trans s.ex) (k1.trans (s.kq R1)) (s.rel _ _ R1) rp p3
theorem sA_nil : SimA B tNil uNil := fun H F σ ρ Q P R hu k => k H F [] [] ρ (Ex.refl _) Kq.refl R .nil hu
theorem sA_cons (ha : SimW B ta ua) (hA : SimA B A U) : SimA B (tCons ta A) (uCons ua U) := fun H F σ ρ Q P R hu k =>
  ha H F σ ρ _ _ R hu fun H1 F1 x dx ρ1 e1 k1 R1 r1 p1 => hA H1 F1 σ ρ1 _ _ R1 p1 fun H2 F2 y dy ρ2 e2 k2 R2 r2 p2 =>
    k H2 F2 _ _ ρ2 (e1.trans e2) (k1.trans k2) R2 (.cons (r1.kp e2 k2.kp) r2) p2
theorem sP_nil : SimP B tNil uNil := fun H F σ ρ Q P R hu k => k H F [] [] ρ (Ex.refl _) Kq.refl R .nil hu
theorem sP_cons (ha : SimE B ta ua) (hA : SimP B A U) : SimP B (tCons ta A) (uCons ua U) := fun H F σ ρ Q P R hu k =>
  ha H F σ ρ _ _ R hu fun H1 F1 x dx ρ1 e1 k1 R1 r1 p1 => hA H1 F1 σ ρ1 _ _ R1 p1 fun H2 F2 y dy ρ2 e2 k2 R2 r2 p2 =>
    k H2 F2 _ _ ρ2 (e1.trans e2) (k1.trans k2) R2 (.cons (r1.ex e2) r2) p2
theorem sE_cb {r : List V → Hp → VK → Prop} {g : UP} (h : SimK B r g) (hA : SimA B A U) : SimE B (tCB r A) (uCB g U) := fun H F σ ρ Q P R hu k =>
  hA H F σ ρ _ _ R hu fun H1 F1 x dx ρ1 e1 k1 R1 r1 p1 => h H1 F1 x dx _ _ R1.toRelH r1 p1 fun H3 F3 v d s rp p3 => k H3 F3 v d ρ1 (e1.trans s.ex) (k1.trans (s.kq R1)) (s.rel _ _ R1) rp p3
theorem Kpo.back {dO : Option Addr} {H H' : Hp} (k : Kpo dO H H') {p : Addr} (n : some p ≠ dO) (h : H' p = none) : H p = none := by
  cases e : H p with
  | none => rfl
  | some o => rw [k p o n e] at h; cases h
theorem RelH.nd {H F : Hp} (R : RelH B H F) {p : Addr} (h : H p = none) : some p ≠ B.dO := fun z => by
  have := (R.dd p z.symm).1.some
  exact this h
theorem sN_cb {r : List V → Hp → VK → Prop} {g : UP} (h : SimKN B r g) (hA : SimA B A U) : SimN B (tCB r A) (uCB g U) := fun H F σ ρ Q P R hu k =>
  hA H F σ ρ _ _ R hu fun H1 F1 x dx ρ1 e1 k1 R1 r1 p1 => h H1 F1 x dx _ _ R1.toRelH r1 p1 fun H3 F3 p vs l s hp hF hH rp p3 => k H3 F3 p vs l ρ1 (e1.trans s.ex) (k1.trans (s.kq R1)) (s.rel _ _ R1) (k1.kp.back (R1.nd hp) hp) (R1.fresh R1 hp fun _ _ h => h) hF hH rp p3
theorem sN_op {r : R2} {q : U2} (h : Sim2N B r q) (ha : SimW B ta ua) (hb : SimW B tb ub) : SimN B (tOp r ta tb) (uOp q ua ub) := fun H F σ ρ Q P R hu k =>
  ha H F σ ρ _ _ R hu fun H1 F1 x dx ρ1 e1 k1 R1 r1 p1 => hb H1 F1 σ ρ1 _ _ R1 p1 fun H2 F2 y dy ρ2 e2 k2 R2 r2 p2 =>
    h H2 F2 x y dx dy _ _ R2.toRelH (r1.kp e2 k2.kp) r2 p2 fun H3 F3 p vs l s hp hF hH rp p3 => k H3 F3 p vs l ρ2 (e1.trans (e2.trans s.ex)) (k1.trans (k2.trans (s.kq R2))) (s.rel _ _ R2) (k1.kp.back (R1.nd (k2.kp.back (R2.nd hp) hp)) (k2.kp.back (R2.nd hp) hp)) (R2.fresh R2 hp fun _ _ h => h) hF hH rp p3
theorem frz_new {H F H' F' : Hp} (R : RelH B H F) (s : St1 B H F H' F') {p : Addr} {vs : List V} (hp : H p = none) (hF : F' p = none) (hH : H' p = some (.lst vs)) : St1 B H F H' (upd F' p (.lst vs)) := by
  have R' := s.relH R
  have ex : Ex F' (upd F' p (.lst vs)) := Ex.new hF
  refine St1.mk' R s.kp (fun d e => (R'.dd d e).1) (s.ex.trans ex) (fun x o e => ?_) (fun x h1 h2 => ?_) (fun x o h1 h2 => ?_)
  · by_cases cx : x = p
    · rw [cx, upd_same] at e; rw [cx, hH]; exact e
    · rw [upd_ne cx] at e; exact R'.fh x o e
  · have : x ≠ p := fun z => h1 (by rw [z]; exact hp)
    rw [upd_ne this]
    exact s.fz R x h1 h2
  · have : x ≠ p := fun z => by rw [z, upd_same] at h2; cases h2
    rw [upd_ne this] at h2; exact R'.lk x o h1 h2
theorem Sim2N.s {r : R2} {q : U2} (h : Sim2N B r q) : Sim2 B r q := fun H F x y dx dy Q P R rx ry hq k => h H F x y dx dy Q P R rx ry hq fun H' F' p vs l s hp hF hH rp hP =>
  k H' _ _ _ (frz_new R s hp hF hH) (.lst upd_same (rp.ex (Ex.new hF))) hP
theorem SimKN.s {r : List V → Hp → VK → Prop} {g : UP} (h : SimKN B r g) : SimK B r g := fun H F vs ds Q P R rx hq k => h H F vs ds Q P R rx hq fun H' F' p vs l s hp hF hH rp hP =>
  k H' _ _ _ (frz_new R s hp hF hH) (.lst upd_same (rp.ex (Ex.new hF))) hP
theorem SimN.e (h : SimN B t u) : SimE B t u := fun H F σ ρ Q P R hu k => h H F σ ρ Q P R hu fun H' F' p vs l ρ' e kp R' hp hn hF hH rp hP => by
  obtain ⟨e1, R1⟩ := R'.frzN (R.toRelH.n0 hp) hn hF hH
  refine k H' _ _ _ ρ' (e.trans e1) ⟨kp.kp, kp.nn, kp.ow, fun x h1 h2 h3 => ?_⟩ R1 (.lst upd_same (rp.ex e1)) hP
  rw [upd_ne fun z => h1 (by rw [z]; exact hp)]
  exact kp.pr x h1 h2 h3
end
end TkL


namespace TkL
open PySem PySem.Spec PySem.Calls PyProof.Rows L2 Tk
def toV : D → Option V
  | .int i => some (.int i) | .bl b => some (.bl b) | .str s => some (.str s) | .non => some .non | _ => none
def isNonD : D → Bool
  | .non => true
  | _ => false
def toVs : List D → Option (List V)
  | [] => some []
  | d :: ds => match toV d, toVs ds with | some v, some vs => some (v :: vs) | _, _ => none
section
variable {B : Bs} {H F : Hp}
theorem Rep.toV {K : PySem.W.Frag} {C : Addr} {dO : Option Addr} {v w : V} {d : D} (h : Rep K C dO F v d) (e : toV d = some w) : v = w := by
  cases h <;> first | (exact Option.some.inj e) | (exact absurd e (by intro z; cases z))
theorem RepW.toV {v w : V} {d : D} (h : RepW B F H v d) (e : TkL.toV d = some w) : v = w := by
  cases d with
  | lst l => cases e
  | _ => exact Rep.toV h e
theorem Reps.toVs {K : PySem.W.Frag} {C : Addr} {dO : Option Addr} : ∀ {vs ws : List V} {ds : List D}, Reps K C dO F vs ds → toVs ds = some ws → vs = ws
  | _, _, _, .nil, e => by cases e; rfl
  | _, _, _, .cons (d := d) (ds := ds) a t, e => by
    unfold TkL.toVs at e
    cases h1 : TkL.toV d with
    | none => rw [h1] at e; cases e
    | some x =>
      cases h2 : TkL.toVs ds with
      | none => rw [h1, h2] at e; cases e
      | some xs => rw [h1, h2] at e; cases e; rw [a.toV h1, t.toVs h2]
theorem RepW.seq {v : V} {d : D} {l : List D} (R : RelH B H F) (h : RepW B F H v d) (e : d = .lst l ∨ d = .tup l) : ∃ p vs, v = .ref p ∧ (SqL B.K H p vs ∨ SqT B.K H p vs) ∧ Reps B.K B.C B.dO F vs l := by
  rcases e with rfl | rfl
  · obtain ⟨p, vs, a, _, b, c⟩ := h
    exact ⟨p, vs, a, .inl (lOf b), c⟩
  · cases h with
    | tup a b => exact ⟨_, _, rfl, .inr (R.fh.sqT a), b⟩
theorem RepW.tup {v : V} {l : List D} (R : RelH B H F) (h : RepW B F H v (.tup l)) : ∃ p vs, v = .ref p ∧ SqT B.K H p vs ∧ Reps B.K B.C B.dO F vs l ∧ SqT B.K F p vs := by
  cases h with
  | tup a b => exact ⟨_, _, rfl, R.fh.sqT a, b, a⟩
theorem RepW.row {v : V} {r : RV} (R : RelH B H F) (h : RepW B F H v (.row r)) : ∃ a, v = .ref a ∧ RowAt B.K B.C F a r := by
  cases h with
  | row a => exact ⟨_, rfl, a⟩
theorem RowAt.ob {K : PySem.W.Frag} {C : Addr} {H : Hp} {a : Addr} {r : RV} (I : RowAt K C H a r) : ∃ dx fs, H a = some (.ins C dx fs) := by
  obtain ⟨dx, p1, p2, p3, p4, I⟩ := I
  exact ⟨_, _, I.ob⟩
theorem RepsW.one {vs : List V} {d : D} (h : RepsW B F H vs [d]) : ∃ v, vs = [v] ∧ RepW B F H v d := by
  cases h with
  | cons a t => cases t; exact ⟨_, rfl, a⟩
theorem RepsW.two {vs : List V} {d e : D} (h : RepsW B F H vs [d, e]) : ∃ v w, vs = [v, w] ∧ RepW B F H v d ∧ RepW B F H w e := by
  cases h with
  | cons a t => cases t with | cons b t => cases t; exact ⟨_, _, rfl, a, b⟩
theorem sqT_sz {K : PySem.W.Frag} {p : Addr} {vs : List V} : True := trivial
theorem new_tup (R : RelH B H F) {p : Addr} {vs : List V} {ds : List D} (hp : H p = none) (r : Reps B.K B.C B.dO F vs ds) : St1 B H F (upd H p (.tup vs)) (growF F H (upd H p (.tup vs))) ∧ Rep B.K B.C B.dO (growF F H (upd H p (.tup vs))) (.ref p) (.tup ds) := by
  have s := St1.growE (H' := upd H p (.tup vs)) R (Ex.new hp)
  exact ⟨s, .tup (tOf (growF_at hp)) (r.ex s.ex)⟩
theorem new_own (R : RelH B H F) {p : Addr} {vs : List V} (hp : H p = none) : St1 B H F (upd H p (.lst vs)) F ∧ F p = none := by
  have hF : F p = none := by
    cases e : F p with
    | none => rfl
    | some o => rw [R.fh _ _ e] at hp; cases hp
  refine ⟨St1.mk' R (Ex.new hp).kpo (fun d e => ?_) (Ex.refl _) (R.fh.trans (Ex.new hp)) (fun _ _ h => h) (fun x o h1 h2 => ?_), hF⟩
  · obtain ⟨ds, a, b⟩ := (R.dd d e).1
    exact ⟨ds, Ex.new hp _ _ a, b⟩
  · by_cases c : x = p
    · rw [c, upd_same] at h1; exact ⟨vs, (Option.some.inj h1).symm⟩
    · rw [upd_ne c] at h1; exact R.lk x o h1 h2
end
def qI (C : Int → Int → Prop) (g : Int → Int → D) : U2 := fun x y P => match x, y with | .int i, .int j => C i j ∧ P (g i j) | _, _ => False
def qI0 (g : Int → Int → D) : U2 := fun x y P => match x, y with | .int i, .int j => P (g i j) | _, _ => False
def qEq : U2 := fun x y P => match toV x, toV y with | some v, some w => scal v w = true ∧ P (.bl (decide (v = w))) | _, _ => False
def qNe : U2 := fun x y P => match toV x, toV y with | some v, some w => scal v w = true ∧ P (.bl (!decide (v = w))) | _, _ => False
def qIsNon : U2 := fun x y P => match y with | .non => P (.bl (isNonD x)) | _ => False
def qNotNon : U2 := fun x y P => match y with | .non => P (.bl (!isNonD x)) | _ => False
def qAddS : U2 := fun x y P => match x, y with | .str i, .str j => i.length + j.length ≤ sizeLine ∧ P (.str (i ++ j)) | _, _ => False
def qCat : U2 := fun x y P => match x, y with | .lst l, .lst m => l.length + m.length ≤ 1000000 ∧ P (.lst (l ++ m)) | _, _ => False
def qCatA : U2 := fun x y P => match x, y with | .tup l, .tup m => l.length + m.length ≤ 1000000 ∧ P (.tup (l ++ m)) | _, _ => False
def qRep : U2 := fun x y P => match x, y with | .lst l, .int k => (-(2 ^ 63) ≤ k ∧ k < 2 ^ 63 ∧ l.length * k.toNat ≤ 1000000) ∧ P (.lst (List.replicate k.toNat l).flatten) | _, _ => False
def qIxL : U2 := fun x y P => match x, y with | .lst l, .int k => ∃ d, atI l k = some d ∧ P d | _, _ => False
def qIxT : U2 := fun x y P => match x, y with | .tup l, .int k => ∃ d, atI l k = some d ∧ P d | _, _ => False
def qIxS : U2 := fun x y P => match x, y with | .str z, .int i => ∃ c, z.length ≤ sizeLine ∧ atI z.cps.toList i = some c ∧ P (.str ⟨#[c]⟩) | _, _ => False
def qInSig (neg : Bool) : U2 := fun x y P => ∃ c : Nat, x = .str ⟨#[c]⟩ ∧ match y with | .str z => P (.bl (if neg then !decide (c ∈ z.cps.toList) else decide (c ∈ z.cps.toList))) | _ => False
def qIn (neg : Bool) : U2 := fun x y P => ∃ v l vs, toV x = some v ∧ (y = .lst l ∨ y = .tup l) ∧ toVs l = some vs ∧ P (.bl (if neg then !inV v vs else inV v vs))
def qMrk (neg : Bool) : U2 := fun x y P => match x, y with | .int t, .mrk ks => P (.bl (if neg then !decide (t ∈ ks) else decide (t ∈ ks))) | _, _ => False
def qUp (up : UP) : U2 := fun x y P => match x with | .row _ => up [x, y] P | _ => False
def qUpR (up : UP) : U2 := fun x y P => match x, y with | .row _, .row _ => up [x, y] P | _, _ => False
def qUpN (up : UP) : U2 := fun x y P => match x, y with | .row _, .row _ => up [x, y] (fun d => match d with | .bl c => P (.bl (!c)) | _ => False) | _, _ => False
def qUpIn (neg : Bool) (up : UP) : U2 := fun y x P => match x with | .row _ => (toV y).isSome = true ∧ up [x, y] (fun d => match d with | .bl c => P (.bl (if neg then !c else c)) | _ => False) | _ => False
def spU (K : PySem.W.Frag) (C : Addr) (up : UP) : Sp := fun vs H Q _ => ∃ dO F ds P, RelH ⟨K, C, dO, H, F⟩ H F ∧ Reps K C dO F vs ds ∧ up ds P ∧ ∀ d H' F' v, P d → RelH ⟨K, C, dO, H, F⟩ H' F' → Rep K C dO F' v d → Q v H'
section
variable {B : Bs} {H F : Hp}
theorem RelH.start (R : RelH B H F) : RelH ⟨B.K, B.C, B.dO, H, F⟩ H F := ⟨R.fh, Ex.refl _, fun _ _ h => h, R.lk, Kpo.refl, fun d e => (R.dd d e).1.some, R.dd⟩
theorem RelH.st1 {H' F' : Hp} (R : RelH B H F) (R' : RelH ⟨B.K, B.C, B.dO, H, F⟩ H' F') : St1 B H F H' F' := St1.mk' R R'.kp (fun d e => (R'.dd d e).1) R'.ff R'.fh R'.f0 R'.lk
theorem spU_call {up : UP} {vs : List V} {ds : List D} {Q : VK} {E : XK} {P : D → Prop} (R : RelH B H F) (r : Reps B.K B.C B.dO F vs ds) (h : up ds P) (k : ∀ H' F' v d, St1 B H F H' F' → Rep B.K B.C B.dO F' v d → P d → Q v H') : spU B.K B.C up vs H Q E :=
  ⟨B.dO, F, ds, P, R.start, r, h, fun d H' F' v p R' rp => k H' F' v d (R.st1 R') rp p⟩
theorem RepW.rep {v : V} {d : D} (h : RepW B F H v d) (n : ∀ l, d ≠ .lst l) : Rep B.K B.C B.dO F v d := by
  cases d with
  | lst l => exact absurd rfl (n l)
  | _ => exact h
theorem rep_of_scal {v w : V} {d : D} (h : RepW B F H v d) (e : toV d = some w) : Rep B.K B.C B.dO F v d := h.rep fun l z => by subst z; cases e
theorem s2_I {C : Int → Int → Prop} {g : Int → Int → V} {g' : Int → Int → D} (hg : ∀ F i j, Rep B.K B.C B.dO F (g i j) (g' i j)) : Sim2 B (rI C g) (qI C g') := fun H F x y dx dy Q P R rx ry hq k => by
  unfold qI at hq
  split at hq
  · cases rx; cases ry
    exact ⟨_, _, rfl, rfl, hq.1, k H F _ _ .refl (hg F _ _) hq.2⟩
  · exact hq.elim
theorem s2_I0 {g : Int → Int → V} {g' : Int → Int → D} (hg : ∀ F i j, Rep B.K B.C B.dO F (g i j) (g' i j)) : Sim2 B (rI0 g) (qI0 g') := fun H F x y dx dy Q P R rx ry hq k => by
  unfold qI0 at hq
  split at hq
  · cases rx; cases ry
    exact ⟨_, _, rfl, rfl, k H F _ _ .refl (hg F _ _) hq⟩
  · exact hq.elim
theorem s2_Eq : Sim2 B rEq qEq := fun H F x y dx dy Q P R rx ry hq k => by
  unfold qEq at hq
  split at hq
  · rename_i v w e1 e2
    rw [rx.toV e1, ry.toV e2]
    exact ⟨hq.1, k H F _ _ .refl .bl hq.2⟩
  · exact hq.elim
theorem s2_Ne : Sim2 B rNe qNe := fun H F x y dx dy Q P R rx ry hq k => by
  unfold qNe at hq
  split at hq
  · rename_i v w e1 e2
    rw [rx.toV e1, ry.toV e2]
    exact ⟨hq.1, k H F _ _ .refl .bl hq.2⟩
  · exact hq.elim
theorem RepW.isNon {v : V} {d : D} (h : RepW B F H v d) : decide (v = .non) = isNonD d := by
  cases d with
  | lst l => obtain ⟨p, vs, rfl, _⟩ := h; rfl
  | _ => cases h <;> first | rfl | (cases ‹Rep _ _ _ _ _ _› <;> rfl)
theorem s2_IsNon : Sim2 B rIsNon qIsNon := fun H F x y dx dy Q P R rx ry hq k => by
  unfold qIsNon at hq
  split at hq
  · cases ry
    refine ⟨rfl, ?_⟩
    rw [rx.isNon]
    exact k H F _ _ .refl .bl hq
  · exact hq.elim
theorem s2_NotNon : Sim2 B rNotNon qNotNon := fun H F x y dx dy Q P R rx ry hq k => by
  unfold qNotNon at hq
  split at hq
  · cases ry
    refine ⟨rfl, ?_⟩
    rw [rx.isNon]
    exact k H F _ _ .refl .bl hq
  · exact hq.elim
theorem s2_AddS : Sim2 B rAddS qAddS := fun H F x y dx dy Q P R rx ry hq k => by
  unfold qAddS at hq
  split at hq
  · cases rx; cases ry
    exact ⟨_, _, rfl, rfl, hq.1, k H F _ _ .refl .str hq.2⟩
  · exact hq.elim
theorem s2_Cat : Sim2N B rCat qCat := fun H F x y dx dy Q P R rx ry hq k => by
  unfold qCat at hq
  split at hq
  · obtain ⟨p, vs, rfl, _, a, b⟩ := rx
    obtain ⟨q, ws, rfl, _, c, d⟩ := ry
    refine ⟨p, q, vs, ws, rfl, rfl, a, c, by rw [b.len, d.len]; exact sz_of hq.1, fun n hn => ?_⟩
    obtain ⟨s, hF⟩ := new_own (vs := vs ++ ws) R hn
    exact k _ _ n _ _ s hn hF upd_same (b.app d) hq.2
  · exact hq.elim
theorem s2_CatA : Sim2 B (rCatA B.K) qCatA := fun H F x y dx dy Q P R rx ry hq k => by
  unfold qCatA at hq
  split at hq
  · rename_i l m
    obtain ⟨p, vs, rfl, a, b, a'⟩ := rx.tup R
    obtain ⟨q, ws, rfl, c, d, c'⟩ := ry.tup R
    refine ⟨p, q, vs, ws, rfl, rfl, a, c, by rw [b.len, d.len]; exact sz_of hq.1, fun z => ?_, fun z1 z2 => ?_, fun _ _ n hn => ?_⟩
    · subst z
      cases b
      exact k H F _ _ .refl (.tup c' d) hq.2
    · subst z2
      cases d
      refine k H F _ _ .refl (.tup a' b) ?_
      have := hq.2
      rwa [List.append_nil] at this
    · obtain ⟨s, r⟩ := new_tup R hn (b.app d)
      exact k _ _ _ _ s r hq.2
  · exact hq.elim
theorem s2_Rep : Sim2N B rRep qRep := fun H F x y dx dy Q P R rx ry hq k => by
  unfold qRep at hq
  split at hq
  · obtain ⟨p, vs, rfl, _, a, b⟩ := rx
    cases ry
    refine ⟨p, _, vs, rfl, rfl, a, hq.1.1, hq.1.2.1, by rw [b.len]; exact sz_of hq.1.2.2, fun n hn => ?_⟩
    obtain ⟨s, hF⟩ := new_own (vs := (List.replicate _ vs).flatten) R hn
    exact k _ _ n _ _ s hn hF upd_same (b.rep _) hq.2
  · exact hq.elim
theorem atI_get {l : List D} {vs : List V} {K : PySem.W.Frag} {C : Addr} {dO : Option Addr} {i : Int} {d : D} (r : Reps K C dO F vs l) (e : atI l i = some d) : ∃ v, atI vs i = some v ∧ Rep K C dO F v d := by
  unfold atI at e ⊢
  rw [r.len]
  cases h : ixN l.length i with
  | none => rw [h] at e; cases e
  | some j =>
    rw [h] at e
    exact r.get' e
theorem s2_ixL : Sim2 B (rIxL B.K) qIxL := fun H F x y dx dy Q P R rx ry hq k => by
  unfold qIxL at hq
  split at hq
  · obtain ⟨p, vs, rfl, _, a, b⟩ := rx
    cases ry
    obtain ⟨d, e, hq⟩ := hq
    obtain ⟨v, h1, h2⟩ := atI_get b e
    exact ⟨p, vs, _, v, rfl, rfl, lOf a, h1, k H F _ _ .refl h2 hq⟩
  · exact hq.elim
theorem s2_ixT : Sim2 B (rIxT B.K) qIxT := fun H F x y dx dy Q P R rx ry hq k => by
  unfold qIxT at hq
  split at hq
  · obtain ⟨p, vs, rfl, a, b, a'⟩ := rx.tup R
    cases ry
    obtain ⟨d, e, hq⟩ := hq
    obtain ⟨v, h1, h2⟩ := atI_get b e
    exact ⟨p, vs, _, v, rfl, rfl, a, h1, k H F _ _ .refl h2 hq⟩
  · exact hq.elim
theorem s2_ixS : Sim2 B rIxS qIxS := fun H F x y dx dy Q P R rx ry hq k => by
  unfold qIxS at hq
  split at hq
  · cases rx
    cases ry
    obtain ⟨c, h1, h2, hq⟩ := hq
    exact ⟨_, _, c, rfl, rfl, h1, h2, k H F _ _ .refl .str hq⟩
  · exact hq.elim
theorem s2_inSig : Sim2 B rInSig (qInSig false) := fun H F x y dx dy Q P R rx ry hq k => by
  obtain ⟨c, rfl, hq⟩ := hq
  cases rx
  split at hq
  · cases ry
    exact ⟨c, _, rfl, rfl, k H F _ _ .refl .bl hq⟩
  · exact hq.elim
theorem s2_notInSig : Sim2 B rNotInSig (qInSig true) := fun H F x y dx dy Q P R rx ry hq k => by
  obtain ⟨c, rfl, hq⟩ := hq
  cases rx
  split at hq
  · cases ry
    exact ⟨c, _, rfl, rfl, k H F _ _ .refl .bl hq⟩
  · exact hq.elim
theorem toV_flat {d : D} {v : V} (e : toV d = some v) : flatV v = true := by
  cases d <;> cases e <;> rfl
theorem toVs_flat : ∀ {ds : List D} {vs : List V}, toVs ds = some vs → vs.all flatV = true
  | [], _, e => by cases e; rfl
  | d :: ds, _, e => by
    unfold TkL.toVs at e
    cases h1 : TkL.toV d with
    | none => rw [h1] at e; cases e
    | some x =>
      cases h2 : TkL.toVs ds with
      | none => rw [h1, h2] at e; cases e
      | some xs => rw [h1, h2] at e; cases e; rw [List.all_cons, toV_flat h1, toVs_flat h2]; rfl
theorem s2_In {neg : Bool} : Sim2 B (rIn B.K neg) (qIn neg) := fun H F x y dx dy Q P R rx ry hq k => by
  obtain ⟨v, l, vs, e1, e2, e3, hq⟩ := hq
  obtain ⟨p, ws, rfl, a, b⟩ := ry.seq R e2
  rw [rx.toV e1]
  have := b.toVs e3
  subst this
  exact ⟨p, ws, rfl, a, toV_flat e1, toVs_flat e3, k H F _ _ .refl .bl hq⟩
theorem s2_own {up : UP} : Sim2 B (rOwn B.C (spU B.K B.C up) E0) (qUpR up) := fun H F x y dx dy Q P R rx ry hq k => by
  unfold qUpR at hq
  split at hq
  · obtain ⟨a, rfl, ra⟩ := rx.row R
    obtain ⟨b, rfl, rb⟩ := ry.row R
    obtain ⟨dx, fs, ha⟩ := ra.ob
    obtain ⟨dy, gs, hb⟩ := rb.ob
    exact ⟨a, dx, fs, b, dy, gs, rfl, rfl, R.fh _ _ ha, R.fh _ _ hb, spU_call R (.cons (.row ra) (.cons (.row rb) .nil)) hq k⟩
  · exact hq.elim
def qUpI (up : UP) : U2 := fun x y P => match x, y with | .row _, .int _ => up [x, y] P | _, _ => False
theorem s2_ownI {up : UP} : Sim2 B (rOwnI B.C (spU B.K B.C up) E0) (qUpI up) := fun H F x y dx dy Q P R rx ry hq k => by
  unfold qUpI at hq
  split at hq
  · obtain ⟨a, rfl, ra⟩ := rx.row R
    cases ry
    obtain ⟨dx, fs, ha⟩ := ra.ob
    exact ⟨a, dx, fs, _, rfl, rfl, R.fh _ _ ha, spU_call R (.cons (.row ra) (.cons .int .nil)) hq k⟩
  · exact hq.elim
theorem s2_ownNe {up : UP} : Sim2 B (rOwnNe B.C (spU B.K B.C up) E0) (qUpN up) := fun H F x y dx dy Q P R rx ry hq k => by
  unfold qUpN at hq
  split at hq
  · obtain ⟨a, rfl, ra⟩ := rx.row R
    obtain ⟨b, rfl, rb⟩ := ry.row R
    obtain ⟨dx, fs, ha⟩ := ra.ob
    obtain ⟨dy, gs, hb⟩ := rb.ob
    refine ⟨a, dx, fs, b, dy, gs, rfl, rfl, R.fh _ _ ha, R.fh _ _ hb, spU_call R (.cons (.row ra) (.cons (.row rb) .nil)) hq fun H' F' v d s rp p => ?_⟩
    split at p
    · cases rp
      exact ⟨_, rfl, k H' F' _ _ s .bl p⟩
    · exact p.elim
  · exact hq.elim
theorem s2_ownIn {neg : Bool} {up : UP} : Sim2 B (rOwnIn B.C neg (spU B.K B.C up) E0) (qUpIn neg up) := fun H F y x dy dx Q P R ry rx hq k => by
  unfold qUpIn at hq
  split at hq
  · obtain ⟨a, rfl, ra⟩ := rx.row R
    obtain ⟨dx, fs, ha⟩ := ra.ob
    refine ⟨a, dx, fs, rfl, R.fh _ _ ha, spU_call R (.cons (.row ra) (.cons (ry.rep fun l z => by subst z; exact absurd hq.1 Bool.false_ne_true) .nil)) hq.2 fun H' F' v d s rp p => ?_⟩
    split at p
    · cases rp
      exact ⟨_, rfl, k H' F' _ _ s .bl p⟩
    · exact p.elim
  · exact hq.elim
theorem s2_ownIx {up : UP} : Sim2 B (rOwnIx B.C (spU B.K B.C up) E0) (qUpI up) := fun H F x y dx dy Q P R rx ry hq k => by
  unfold qUpI at hq
  split at hq
  · obtain ⟨a, rfl, ra⟩ := rx.row R
    cases ry
    obtain ⟨dx, fs, ha⟩ := ra.ob
    exact ⟨a, dx, fs, rfl, R.fh _ _ ha, spU_call R (.cons (.row ra) (.cons .int .nil)) hq k⟩
  · exact hq.elim
end
end TkL


namespace TkL
open PySem PySem.Spec PySem.Calls PyProof.Rows L2 Tk
def gLen : UP := fun ds P => match ds with | [.lst l] => P (.int l.length) | [.tup l] => P (.int l.length) | _ => False
def gLenS : UP := fun ds P => match ds with | [.str z] => z.length ≤ sizeLine ∧ P (.int z.length) | _ => False
def gInt : UP := fun ds P => match ds with | [.int i] => P (.int i) | [.bl k] => P (.int (if k then 1 else 0)) | _ => False
def gIntS : UP := fun ds P => match ds with | [.str a] => ∃ n, PySem.intText? a = some n ∧ a.length ≤ 640 ∧ P (.int n) | _ => False
def gStr : UP := fun ds P => match ds with | [.int i] => i.natAbs.log2 < 1920 ∧ P (.str (toString i)) | _ => False
def gBool : UP := fun ds P => match ds with | [.int i] => P (.bl (i != 0)) | [.bl k] => P (.bl k) | _ => False
def gBoolO (up : UP) : UP := fun ds P => match ds with | [.row r] => up [.row r] (fun d => match d with | .bl c => P (.bl c) | _ => False) | _ => False
def gList : UP := fun ds P => match ds with | [.lst l] => l.length ≤ 1000000 ∧ P (.lst l) | [.tup l] => l.length ≤ 1000000 ∧ P (.lst l) | _ => False
def gTuple : UP := fun ds P => match ds with | [.lst l] => l.length ≤ 1000000 ∧ P (.tup l) | [.tup l] => P (.tup l) | _ => False
def gSum : UP := fun ds P => match ds with | [.lst l] => ∃ ns : List Int, l = iL ns ∧ P (.int ns.sum) | _ => False
def gAll : UP := fun ds P => match ds with | [.lst l] => ∃ bs : List Bool, l = bL bs ∧ P (.bl (bs.all id)) | _ => False
def gAny : UP := fun ds P => match ds with | [.lst l] => ∃ bs : List Bool, l = bL bs ∧ P (.bl (bs.any id)) | _ => False
def gSorted : UP := fun ds P => match ds with | [.lst l] => ∃ ns : List Int, l = iL ns ∧ ∀ ns' : List Int, ns'.Perm ns → ns'.Pairwise (· ≤ ·) → P (.lst (iL ns')) | _ => False
def gAbs : UP := fun ds P => match ds with | [.int i] => P (.int (if i < 0 then -i else i)) | _ => False
def gMax2 : UP := fun ds P => match ds with | [.int i, .int j] => P (.int (if j > i then j else i)) | _ => False
def gMin2 : UP := fun ds P => match ds with | [.int i, .int j] => P (.int (if j < i then j else i)) | _ => False
def gMax : UP := fun ds P => match ds with | [.lst l] => ∃ ns : List Int, l = iL ns ∧ 0 < ns.length ∧ ∀ m, m ∈ ns → (∀ y, y ∈ ns → y ≤ m) → P (.int m) | _ => False
def gMin : UP := fun ds P => match ds with | [.lst l] => ∃ ns : List Int, l = iL ns ∧ 0 < ns.length ∧ ∀ m, m ∈ ns → (∀ y, y ∈ ns → m ≤ y) → P (.int m) | _ => False
def gDivmod : UP := fun ds P => match ds with | [.int i, .int j] => CDiv i j ∧ P (.tup [.int (i / j), .int (i % j)]) | _ => False
def prT (k : Int) : D := .tup [.int k, .bl true]
def gDict : UP := fun ds P => match ds with | [.lst l] => ∃ ks : List Int, l = ks.map prT ∧ P (.mrk ks) | _ => False
section
variable {B : Bs} {H F : Hp}
theorem sk_len : SimK B (kLen B.K) gLen := fun H F vs ds Q P R r h k => by
  unfold gLen at h
  split at h
  · obtain ⟨v, rfl, a⟩ := r.one
    obtain ⟨p, ws, rfl, b, c⟩ := a.seq R (.inl rfl)
    exact ⟨p, ws, rfl, b, by rw [c.len]; exact k H F _ _ .refl .int h⟩
  · obtain ⟨v, rfl, a⟩ := r.one
    obtain ⟨p, ws, rfl, b, c⟩ := a.seq R (.inr rfl)
    exact ⟨p, ws, rfl, b, by rw [c.len]; exact k H F _ _ .refl .int h⟩
  · exact h.elim
theorem sk_lenS : SimK B kLenS gLenS := fun H F vs ds Q P R r h k => by
  unfold gLenS at h
  split at h
  · obtain ⟨v, rfl, a⟩ := r.one
    cases a
    exact ⟨_, rfl, h.1, k H F _ _ .refl .int h.2⟩
  · exact h.elim
theorem sk_int : SimK B kInt gInt := fun H F vs ds Q P R r h k => by
  unfold gInt at h
  split at h
  · obtain ⟨v, rfl, a⟩ := r.one
    cases a
    exact .inl ⟨_, rfl, k H F _ _ .refl .int h⟩
  · obtain ⟨v, rfl, a⟩ := r.one
    cases a
    exact .inr ⟨_, rfl, k H F _ _ .refl .int h⟩
  · exact h.elim
theorem sk_intS : SimK B kIntS gIntS := fun H F vs ds Q P R r h k => by
  unfold gIntS at h
  split at h
  · obtain ⟨v, rfl, a⟩ := r.one
    cases a
    obtain ⟨n, h1, h2, h⟩ := h
    exact ⟨_, n, rfl, h1, h2, k H F _ _ .refl .int h⟩
  · exact h.elim
theorem sk_str : SimK B kStr gStr := fun H F vs ds Q P R r h k => by
  unfold gStr at h
  split at h
  · obtain ⟨v, rfl, a⟩ := r.one
    cases a
    exact ⟨_, rfl, h.1, k H F _ _ .refl .str h.2⟩
  · exact h.elim
theorem sk_bool : SimK B kBool gBool := fun H F vs ds Q P R r h k => by
  unfold gBool at h
  split at h
  · obtain ⟨v, rfl, a⟩ := r.one
    cases a
    exact .inl ⟨_, rfl, k H F _ _ .refl .bl h⟩
  · obtain ⟨v, rfl, a⟩ := r.one
    cases a
    exact .inr ⟨_, rfl, k H F _ _ .refl .bl h⟩
  · exact h.elim
theorem sk_list : SimKN B (kList B.K) gList := fun H F vs ds Q P R r h k => by
  unfold gList at h
  split at h
  · obtain ⟨v, rfl, a⟩ := r.one
    obtain ⟨p, ws, rfl, b, c⟩ := a.seq R (.inl rfl)
    refine ⟨p, ws, rfl, b, fun l hl => ?_⟩
    obtain ⟨s, hF⟩ := new_own (vs := ws) R hl
    exact k _ _ l _ _ s hl hF upd_same c h.2
  · obtain ⟨v, rfl, a⟩ := r.one
    obtain ⟨p, ws, rfl, b, c⟩ := a.seq R (.inr rfl)
    refine ⟨p, ws, rfl, b, fun l hl => ?_⟩
    obtain ⟨s, hF⟩ := new_own (vs := ws) R hl
    exact k _ _ l _ _ s hl hF upd_same c h.2
  · exact h.elim
theorem sk_tuple : SimK B (kTuple B.K) gTuple := fun H F vs ds Q P R r h k => by
  unfold gTuple at h
  split at h
  · obtain ⟨v, rfl, a⟩ := r.one
    obtain ⟨p, ws, rfl, _, b, c⟩ := a
    refine ⟨p, ws, rfl, .inl ⟨lOf b, fun l hl => ?_⟩⟩
    obtain ⟨s, r⟩ := new_tup R hl c
    exact k _ _ _ _ s r h.2
  · obtain ⟨v, rfl, a⟩ := r.one
    obtain ⟨p, ws, rfl, b, c, b'⟩ := a.tup R
    exact ⟨p, ws, rfl, .inr ⟨b, k H F _ _ .refl (.tup b' c) h⟩⟩
  · exact h.elim
theorem RepW.ints {v : V} {l : List Int} (h : RepW B F H v (.lst (iL l))) : ∃ p, v = .ref p ∧ H p = some (.lst (l.map V.int)) := by
  obtain ⟨p, vs, rfl, _, a, b⟩ := h
  exact ⟨p, rfl, by rw [a, b.ints]⟩
theorem sk_sum : SimK B (rSum B.K) gSum := fun H F vs ds Q P R r h k => by
  unfold gSum at h
  split at h
  · obtain ⟨v, rfl, a⟩ := r.one
    obtain ⟨ns, rfl, h⟩ := h
    obtain ⟨p, rfl, b⟩ := a.ints
    exact ⟨p, ns, rfl, lOf b, k H F _ _ .refl .int h⟩
  · exact h.elim
theorem sk_all : SimK B (rAll B.K) gAll := fun H F vs ds Q P R r h k => by
  unfold gAll at h
  split at h
  · obtain ⟨v, rfl, a⟩ := r.one
    obtain ⟨ns, rfl, h⟩ := h
    obtain ⟨p, ws, rfl, _, b, c⟩ := a
    have e := c.bls
    subst e
    exact ⟨p, ns, rfl, lOf b, k H F _ _ .refl .bl h⟩
  · exact h.elim
theorem sk_any : SimK B (rAny B.K) gAny := fun H F vs ds Q P R r h k => by
  unfold gAny at h
  split at h
  · obtain ⟨v, rfl, a⟩ := r.one
    obtain ⟨ns, rfl, h⟩ := h
    obtain ⟨p, ws, rfl, _, b, c⟩ := a
    have e := c.bls
    subst e
    exact ⟨p, ns, rfl, lOf b, k H F _ _ .refl .bl h⟩
  · exact h.elim
theorem sk_sorted : SimKN B (rSortedI B.K) gSorted := fun H F vs ds Q P R r h k => by
  unfold gSorted at h
  split at h
  · obtain ⟨v, rfl, a⟩ := r.one
    obtain ⟨ns, rfl, h⟩ := h
    obtain ⟨p, rfl, b⟩ := a.ints
    refine ⟨p, ns, rfl, lOf b, fun ns' q h1 h2 hq => ?_⟩
    obtain ⟨s, hF⟩ := new_own (vs := ns'.map V.int) R hq
    exact k _ _ q _ _ s hq hF upd_same (Reps.ofInts ns') (h ns' h1 h2)
  · exact h.elim
theorem sk_abs : SimK B kAbs gAbs := fun H F vs ds Q P R r h k => by
  unfold gAbs at h
  split at h
  · obtain ⟨v, rfl, a⟩ := r.one
    cases a
    exact ⟨_, rfl, k H F _ _ .refl .int h⟩
  · exact h.elim
theorem sk_max2 : SimK B kMax2 gMax2 := fun H F vs ds Q P R r h k => by
  unfold gMax2 at h
  split at h
  · obtain ⟨v, w, rfl, a, b⟩ := r.two
    cases a; cases b
    exact ⟨_, _, rfl, k H F _ _ .refl .int h⟩
  · exact h.elim
theorem sk_min2 : SimK B kMin2 gMin2 := fun H F vs ds Q P R r h k => by
  unfold gMin2 at h
  split at h
  · obtain ⟨v, w, rfl, a, b⟩ := r.two
    cases a; cases b
    exact ⟨_, _, rfl, k H F _ _ .refl .int h⟩
  · exact h.elim
theorem sk_divmod : SimK B kDivmod gDivmod := fun H F vs ds Q P R r h k => by
  unfold gDivmod at h
  split at h
  · obtain ⟨v, w, rfl, a, b⟩ := r.two
    cases a; cases b
    refine ⟨_, _, rfl, h.1, fun p hp => ?_⟩
    obtain ⟨s, r⟩ := new_tup R hp (.cons .int (.cons .int .nil))
    exact k _ _ _ _ s r h.2
  · exact h.elim
theorem sk_max : SimK B (rMax B.K) gMax := fun H F vs ds Q P R r h k => by
  unfold gMax at h
  split at h
  · obtain ⟨v, rfl, a⟩ := r.one
    obtain ⟨ns, rfl, hl, h⟩ := h
    obtain ⟨p, rfl, b⟩ := a.ints
    exact ⟨p, ns, rfl, lOf b, hl, fun m h1 h2 => k H F _ _ .refl .int (h m h1 h2)⟩
  · exact h.elim
theorem sk_min : SimK B (rMin B.K) gMin := fun H F vs ds Q P R r h k => by
  unfold gMin at h
  split at h
  · obtain ⟨v, rfl, a⟩ := r.one
    obtain ⟨ns, rfl, hl, h⟩ := h
    obtain ⟨p, rfl, b⟩ := a.ints
    exact ⟨p, ns, rfl, lOf b, hl, fun m h1 h2 => k H F _ _ .refl .int (h m h1 h2)⟩
  · exact h.elim
theorem Reps.prs {K : PySem.W.Frag} {C : Addr} {dO : Option Addr} : ∀ {ks : List Int} {vs : List V}, Reps K C dO F vs (ks.map prT) → ∃ ps : List Addr, vs = ps.map V.ref ∧ Paired (fun p (kv : Key × V) => SqT K F p [kV kv.1, kv.2]) ps (ks.map fun k => (Sum.inl k, V.bl true))
  | [], _, .nil => ⟨[], rfl, .nil⟩
  | k :: ks, _, .cons (.tup (p := p) h r) t => by
    obtain ⟨ps, e, q⟩ := Reps.prs (ks := ks) t
    subst e
    cases r with
    | cons a r => cases r with
      | cons b r =>
        cases r
        cases a
        cases b
        exact ⟨p :: ps, rfl, .cons h q⟩
theorem Paired.ex {K : PySem.W.Frag} {H F : Hp} (e : Ex F H) : ∀ {ps : List Addr} {kvs : List (Key × V)}, Paired (fun p (kv : Key × V) => SqT K F p [kV kv.1, kv.2]) ps kvs → Paired (fun p (kv : Key × V) => SqT K H p [kV kv.1, kv.2]) ps kvs
  | _, _, .nil => .nil
  | _, _, .cons a t => .cons (e.sqT a) (Paired.ex e t)
theorem sk_dict : SimK B (kDict B.K) gDict := fun H F vs ds Q P R r h k => by
  unfold gDict at h
  split at h
  · obtain ⟨v, rfl, a⟩ := r.one
    obtain ⟨ks, rfl, h⟩ := h
    obtain ⟨p, ws, rfl, _, b, c⟩ := a
    obtain ⟨ps, rfl, q⟩ := c.prs
    refine ⟨p, ps, _, rfl, lOf b, Paired.ex R.fh q, fun l hl => ?_⟩
    have e : mergeK [] (ks.map fun k => (Sum.inl k, V.bl true)) = mkD ks := by unfold mergeK mkD; rw [List.foldl_map]
    rw [e]
    have s := St1.growE (H' := upd H l (.dK (mkD ks))) R (Ex.new hl)
    exact k _ _ _ _ s (.mrk (growF_at hl)) h
  · exact h.elim
end
section
variable {B : Bs} {t ta tb tc te td : TE} {u ua ub uc ue ud : UE} {tt tt' : TT} {ut ut' : UT} {A : TA} {U : UA}
theorem sE_if (hc : SimT B tt ut) (ha : SimE B ta ua) (hb : SimE B tb ub) : SimE B (tIf tt ta tb) (uIf ut ua ub) := fun H F σ ρ Q P R hu k =>
  hc H F σ ρ _ _ R hu fun H1 F1 c ρ1 e1 k1 R1 p1 => by
    cases c with
    | true => exact ha H1 F1 σ ρ1 _ _ R1 p1 fun H2 F2 v d ρ2 e2 k2 R2 rp p2 => k H2 F2 v d ρ2 (e1.trans e2) (k1.trans k2) R2 rp p2
    | false => exact hb H1 F1 σ ρ1 _ _ R1 p1 fun H2 F2 v d ρ2 e2 k2 R2 rp p2 => k H2 F2 v d ρ2 (e1.trans e2) (k1.trans k2) R2 rp p2
theorem sW_if (hc : SimT B tt ut) (ha : SimW B ta ua) (hb : SimW B tb ub) : SimW B (tIf tt ta tb) (uIf ut ua ub) := fun H F σ ρ Q P R hu k =>
  hc H F σ ρ _ _ R hu fun H1 F1 c ρ1 e1 k1 R1 p1 => by
    cases c with
    | true => exact ha H1 F1 σ ρ1 _ _ R1 p1 fun H2 F2 v d ρ2 e2 k2 R2 rp p2 => k H2 F2 v d ρ2 (e1.trans e2) (k1.trans k2) R2 rp p2
    | false => exact hb H1 F1 σ ρ1 _ _ R1 p1 fun H2 F2 v d ρ2 e2 k2 R2 rp p2 => k H2 F2 v d ρ2 (e1.trans e2) (k1.trans k2) R2 rp p2
theorem sE_andV (ha : SimW B ta ua) (hb : SimE B tb ub) : SimE B (tAndV ta tb) (uAndV ua ub) := fun H F σ ρ Q P R hu k =>
  ha H F σ ρ _ _ R hu fun H1 F1 v d ρ1 e1 k1 R1 r1 p1 => by
    obtain ⟨c, rfl, p1⟩ := p1
    cases r1
    refine ⟨c, rfl, ?_⟩
    cases c with
    | true => exact hb H1 F1 σ ρ1 _ _ R1 p1 fun H2 F2 v d ρ2 e2 k2 R2 rp p2 => k H2 F2 v d ρ2 (e1.trans e2) (k1.trans k2) R2 rp p2
    | false => exact k H1 F1 _ _ ρ1 e1 k1 R1 .bl p1
theorem sE_orV (ha : SimW B ta ua) (hb : SimE B tb ub) : SimE B (tOrV ta tb) (uOrV ua ub) := fun H F σ ρ Q P R hu k =>
  ha H F σ ρ _ _ R hu fun H1 F1 v d ρ1 e1 k1 R1 r1 p1 => by
    obtain ⟨c, rfl, p1⟩ := p1
    cases r1
    refine ⟨c, rfl, ?_⟩
    cases c with
    | false => exact hb H1 F1 σ ρ1 _ _ R1 p1 fun H2 F2 v d ρ2 e2 k2 R2 rp p2 => k H2 F2 v d ρ2 (e1.trans e2) (k1.trans k2) R2 rp p2
    | true => exact k H1 F1 _ _ ρ1 e1 k1 R1 .bl p1
theorem sE_notV (ha : SimW B ta ua) : SimE B (tNotV ta) (uNotV ua) := fun H F σ ρ Q P R hu k =>
  ha H F σ ρ _ _ R hu fun H1 F1 v d ρ1 e1 k1 R1 r1 p1 => by
    obtain ⟨c, rfl, p1⟩ := p1
    cases r1
    exact ⟨c, rfl, k H1 F1 _ _ ρ1 e1 k1 R1 .bl p1⟩
theorem sT_B (ha : SimW B ta ua) : SimT B (tB ta) (uB ua) := fun H F σ ρ Q P R hu k =>
  ha H F σ ρ _ _ R hu fun H1 F1 v d ρ1 e1 k1 R1 r1 p1 => by
    obtain ⟨c, rfl, p1⟩ := p1
    cases r1
    exact ⟨c, rfl, k H1 F1 _ ρ1 e1 k1 R1 p1⟩
theorem sT_test (ha : SimW B ta ua) : SimT B (tTest ta) (uB ua) := sT_B ha
theorem sT_and (ha : SimT B tt ut) (hb : SimT B tt' ut') : SimT B (tAnd tt tt') (uAnd ut ut') := fun H F σ ρ Q P R hu k =>
  ha H F σ ρ _ _ R hu fun H1 F1 c ρ1 e1 k1 R1 p1 => by
    cases c with
    | true => exact hb H1 F1 σ ρ1 _ _ R1 p1 fun H2 F2 d ρ2 e2 k2 R2 p2 => k H2 F2 d ρ2 (e1.trans e2) (k1.trans k2) R2 p2
    | false => exact k H1 F1 _ ρ1 e1 k1 R1 p1
theorem sT_or (ha : SimT B tt ut) (hb : SimT B tt' ut') : SimT B (tOr tt tt') (uOr ut ut') := fun H F σ ρ Q P R hu k =>
  ha H F σ ρ _ _ R hu fun H1 F1 c ρ1 e1 k1 R1 p1 => by
    cases c with
    | false => exact hb H1 F1 σ ρ1 _ _ R1 p1 fun H2 F2 d ρ2 e2 k2 R2 p2 => k H2 F2 d ρ2 (e1.trans e2) (k1.trans k2) R2 p2
    | true => exact k H1 F1 _ ρ1 e1 k1 R1 p1
theorem sT_not (ha : SimT B tt ut) : SimT B (tNot tt) (uNot ut) := fun H F σ ρ Q P R hu k =>
  ha H F σ ρ _ _ R hu fun H1 F1 c ρ1 e1 k1 R1 p1 => k H1 F1 _ ρ1 e1 k1 R1 p1
def truD : D → Option Bool
  | .int i => some (i != 0) | .bl b => some b | .non => some false | .lst l => some (!l.isEmpty) | .tup l => some (!l.isEmpty) | _ => none
theorem isE {K : PySem.W.Frag} {C : Addr} {dO : Option Addr} {F : Hp} {vs : List V} {l : List D} (r : Reps K C dO F vs l) : vs.isEmpty = l.isEmpty := by cases r <;> rfl
theorem RepW.tru {F H : Hp} {v : V} {d : D} {k : Bool} (R : RelH B H F) (r : RepW B F H v d) (e : truD d = some k) : TruV B.K v H k := by
  cases d with
  | lst l =>
    obtain ⟨p, vs, rfl, _, a, b⟩ := r
    exact .inl ⟨vs, lOf a, by rw [isE b]; exact (Option.some.inj e).symm⟩
  | tup l =>
    obtain ⟨p, vs, rfl, a, b, _⟩ := r.tup R
    exact .inr (.inl ⟨vs, a, by rw [isE b]; exact (Option.some.inj e).symm⟩)
  | int i => cases r; exact (Option.some.inj e).symm
  | bl i => cases r; exact (Option.some.inj e).symm
  | non => cases r; exact (Option.some.inj e).symm
  | _ => cases e
def uTru (a : UE) : UT := fun ρ P => a ρ fun x ρ1 => match truD x with | some k => P k ρ1 | none => False
theorem sT_tru (ha : SimW B ta ua) : SimT B (tTru B.K ta) (uTru ua) := fun H F σ ρ Q P R hu k =>
  ha H F σ ρ _ _ R hu fun H1 F1 v d ρ1 e1 k1 R1 r1 p1 => by
    split at p1
    · rename_i b e
      exact ⟨b, r1.tru R1.toRelH e, k H1 F1 _ ρ1 e1 k1 R1 p1⟩
    · exact p1.elim
def uNotT (a : UE) : UE := fun ρ P => a ρ fun x ρ1 => match truD x with | some k => P (.bl (!k)) ρ1 | none => False
theorem sE_notT (ha : SimW B ta ua) : SimE B (tNotT B.K ta) (uNotT ua) := fun H F σ ρ Q P R hu k =>
  ha H F σ ρ _ _ R hu fun H1 F1 v d ρ1 e1 k1 R1 r1 p1 => by
    split at p1
    · rename_i b e
      exact ⟨b, r1.tru R1.toRelH e, k H1 F1 _ _ ρ1 e1 k1 R1 .bl p1⟩
    · exact p1.elim
def uTruO (up : UP) (a : UE) : UT := fun ρ P => a ρ fun x ρ1 => match x with | .row r => up [.row r] (fun d => match d with | .bl c => P c ρ1 | _ => False) | _ => False
theorem sT_truO {up : UP} (ha : SimW B ta ua) : SimT B (tTruO B.C (spU B.K B.C up) E0 ta) (uTruO up ua) := fun H F σ ρ Q P R hu k =>
  ha H F σ ρ _ _ R hu fun H1 F1 v d ρ1 e1 k1 R1 r1 p1 => by
    split at p1
    · obtain ⟨a, rfl, ra⟩ := r1.row R1.toRelH
      obtain ⟨dx, fs, ob⟩ := ra.ob
      refine ⟨a, dx, fs, rfl, R1.fh _ _ ob, spU_call R1.toRelH (.cons (.row ra) .nil) p1 fun H' F' v d s rp p => ?_⟩
      split at p
      · cases rp
        exact ⟨_, rfl, k H' F' _ ρ1 (e1.trans s.ex) (k1.trans (s.kq R1)) (s.rel _ _ R1) p⟩
      · exact p.elim
    · exact p1.elim
theorem sE_chain {r r' : R2} {q q' : U2} (h : Sim2 B r q) (h' : Sim2 B r' q') (ha : SimW B ta ua) (hb : SimW B tb ub) (hc : SimW B tc uc) : SimE B (tChain r r' ta tb tc) (uChain q q' ua ub uc) := fun H F σ ρ Q P R hu k => by
  refine ha H F σ ρ _ _ R hu fun H1 F1 x dx ρ1 e1 k1 R1 r1 p1 => hb H1 F1 σ ρ1 _ _ R1 p1 fun H2 F2 y dy ρ2 e2 k2 R2 r2 p2 => ?_
  refine h H2 F2 x y dx dy _ _ R2.toRelH (r1.kp e2 k2.kp) r2 p2 fun H3 F3 v d s rp p3 => ?_
  obtain ⟨c, rfl, p3⟩ := p3
  cases rp
  refine ⟨c, rfl, ?_⟩
  have R3 := s.rel _ _ R2
  cases c with
  | true =>
    refine hc H3 F3 σ ρ2 _ _ R3 p3 fun H4 F4 w dw ρ4 e4 k4 R4 r4 p4 => ?_
    refine h' H4 F4 y w dy dw _ _ R4.toRelH ((r2.kp s.ex s.kp).kp e4 k4.kp) r4 p4 fun H5 F5 v d s5 rp5 p5 => ?_
    exact k H5 F5 v d ρ4 (e1.trans (e2.trans (s.ex.trans (e4.trans s5.ex)))) (k1.trans (k2.trans ((s.kq R2).trans (k4.trans (s5.kq R4))))) (s5.rel _ _ R4) rp5 p5
  | false => exact k H3 F3 _ _ ρ2 (e1.trans (e2.trans s.ex)) (k1.trans (k2.trans (s.kq R2))) R3 .bl p3
theorem sE_tup (hA : SimP B A U) : SimE B (tTup A) (uTup U) := fun H F σ ρ Q P R hu k =>
  hA H F σ ρ _ _ R hu fun H1 F1 vs ds ρ1 e1 k1 R1 r1 p1 => ⟨by rw [r1.len]; exact sz_of p1.1, fun p hp => by
    obtain ⟨s, r⟩ := new_tup R1.toRelH hp r1
    exact k _ _ _ _ ρ1 (e1.trans s.ex) (k1.trans (s.kq R1)) (s.rel _ _ R1) r p1.2⟩
theorem sN_lst (hA : SimP B A U) : SimN B (tLst A) (uLst U) := fun H F σ ρ Q P R hu k =>
  hA H F σ ρ _ _ R hu fun H1 F1 vs ds ρ1 e1 k1 R1 r1 p1 => ⟨by rw [r1.len]; exact sz_of p1.1, fun p hp => by
    obtain ⟨s, hF⟩ := new_own (vs := vs) R1.toRelH hp
    exact k _ _ p _ _ ρ1 (e1.trans s.ex) (k1.trans (s.kq R1)) (s.rel _ _ R1) (k1.kp.back (R1.toRelH.nd hp) hp) (R1.fresh R1 hp fun _ _ h => h) hF upd_same r1 p1.2⟩
def uDef (up : UP) (a : UA) : UE := fun ρ P => a ρ fun xs ρ1 => up xs fun z => P z ρ1
def uRow (up : UP) (f : UE) (a : UA) : UE := fun ρ P => f ρ fun y ρ1 => (∃ r, y = .row r) ∧ a ρ1 fun xs ρ2 => up (y :: xs) fun z => P z ρ2
def uPrp (up : UP) (f : UE) : UE := fun ρ P => f ρ fun y ρ1 => (∃ r, y = .row r) ∧ up [y] fun z => P z ρ1
def uCM (up : UP) (f : UE) (a : UA) : UE := fun ρ P => f ρ fun y ρ1 => y = .cls ∧ a ρ1 fun xs ρ2 => up (.cls :: xs) fun z => P z ρ2
theorem sE_def {up : UP} (hA : SimP B A U) : SimE B (tDef (spU B.K B.C up) E0 A) (uDef up U) := fun H F σ ρ Q P R hu k =>
  hA H F σ ρ _ _ R hu fun H1 F1 vs ds ρ1 e1 k1 R1 r1 p1 => spU_call R1.toRelH r1 p1 fun H' F' v d s rp p => k H' F' v d ρ1 (e1.trans s.ex) (k1.trans (s.kq R1)) (s.rel _ _ R1) rp p
theorem sE_ins {up : UP} (hf : SimW B ta ua) (hA : SimP B A U) : SimE B (tIns B.C (spU B.K B.C up) E0 ta A) (uRow up ua U) := fun H F σ ρ Q P R hu k =>
  hf H F σ ρ _ _ R hu fun H1 F1 v d ρ1 e1 k1 R1 r1 p1 => by
    obtain ⟨⟨r, rfl⟩, p1⟩ := p1
    obtain ⟨a, rfl, ra⟩ := r1.row R1.toRelH
    refine ⟨a, rfl, hA H1 F1 σ ρ1 _ _ R1 p1 fun H2 F2 vs ds ρ2 e2 k2 R2 r2 p2 => ?_⟩
    have rb := RowAt.ex' ra e2
    obtain ⟨dx, fs, ob⟩ := rb.ob
    exact ⟨⟨dx, fs, R2.fh _ _ ob⟩, spU_call R2.toRelH (.cons (.row rb) r2) p2 fun H' F' v d s rp p => k H' F' v d ρ2 ((e1.trans e2).trans s.ex) ((k1.trans k2).trans (s.kq R2)) (s.rel _ _ R2) rp p⟩
theorem sE_met {up : UP} {m : Str} (hf : SimW B ta ua) (hA : SimP B A U) (hm : (("early" : Str) == m || ("begin" : Str) == m || ("length" : Str) == m || ("offsets" : Str) == m || ("marks" : Str) == m || ("parts" : Str) == m) = false) : SimE B (tMet B.C m (spU B.K B.C up) E0 ta A) (uRow up ua U) := fun H F σ ρ Q P R hu k =>
  hf H F σ ρ _ _ R hu fun H1 F1 v d ρ1 e1 k1 R1 r1 p1 => by
    obtain ⟨⟨r, rfl⟩, p1⟩ := p1
    obtain ⟨a, rfl, ra⟩ := r1.row R1.toRelH
    obtain ⟨dx, p1', p2', p3', p4', I⟩ := ra
    have ra : RowAt B.K B.C F1 a r := ⟨dx, p1', p2', p3', p4', I⟩
    refine ⟨a, dx, _, rfl, R1.fh _ _ I.ob, ?_, hA H1 F1 σ ρ1 _ _ R1 p1 fun H2 F2 vs ds ρ2 e2 k2 R2 r2 p2 => ?_⟩
    · simp only [Bool.or_eq_false_iff] at hm
      obtain ⟨⟨⟨⟨⟨h1, h2⟩, h3⟩, h4⟩, h5⟩, h6⟩ := hm
      have sy : ∀ {x : Str}, (x == m) = false → (m == x) = false := fun {x} h => by
        cases c : (m == x) with
        | false => rfl
        | true => rw [beq_iff_eq] at c; rw [c, beq_self_eq_true] at h; cases h
      unfold rowFs
      simp only [List.lookup, sy h1, sy h2, sy h3, sy h4, sy h5, sy h6]
    · exact spU_call R2.toRelH (.cons (.row (RowAt.ex' ra e2)) r2) p2 fun H' F' v d s rp p => k H' F' v d ρ2 ((e1.trans e2).trans s.ex) ((k1.trans k2).trans (s.kq R2)) (s.rel _ _ R2) rp p
theorem sE_prp {up : UP} (hf : SimW B ta ua) : SimE B (tPrp B.C (spU B.K B.C up) E0 ta) (uPrp up ua) := fun H F σ ρ Q P R hu k =>
  hf H F σ ρ _ _ R hu fun H1 F1 v d ρ1 e1 k1 R1 r1 p1 => by
    obtain ⟨⟨r, rfl⟩, p1⟩ := p1
    obtain ⟨a, rfl, ra⟩ := r1.row R1.toRelH
    obtain ⟨dx, fs, ob⟩ := ra.ob
    exact ⟨a, dx, fs, rfl, R1.fh _ _ ob, spU_call R1.toRelH (.cons (.row ra) .nil) p1 fun H' F' v d s rp p => k H' F' v d ρ1 (e1.trans s.ex) (k1.trans (s.kq R1)) (s.rel _ _ R1) rp p⟩
theorem sE_cm {up : UP} (hf : SimW B ta ua) (hA : SimP B A U) : SimE B (ClX.tCMeth B.C (spU B.K B.C up) E0 ta A) (uCM up ua U) := fun H F σ ρ Q P R hu k =>
  hf H F σ ρ _ _ R hu fun H1 F1 v d ρ1 e1 k1 R1 r1 p1 => by
    obtain ⟨rfl, p1⟩ := p1
    cases r1
    exact ⟨rfl, hA H1 F1 σ ρ1 _ _ R1 p1 fun H2 F2 vs ds ρ2 e2 k2 R2 r2 p2 => spU_call R2.toRelH (.cons .cls r2) p2 fun H' F' v d s rp p => k H' F' v d ρ2 ((e1.trans e2).trans s.ex) ((k1.trans k2).trans (s.kq R2)) (s.rel _ _ R2) rp p⟩
def uMrk (neg : Bool) (a b : UE) : UE := fun ρ P => a ρ fun x ρ1 => b ρ1 fun y ρ2 => qMrk neg x y fun z => P z ρ2
theorem mrk_get {H : Hp} {p : Addr} {ks : List Int} (t : Int) (h : H p = some (.dK (mkD ks))) : DGet H p (.int t) (valV (mkD ks) (Sum.inl t)) := DGet.k (k := Sum.inl t) h
theorem sE_din (ha : SimW B ta ua) (hb : SimW B tb ub) : SimE B (tDIn ta tb) (uMrk false ua ub) := fun H F σ ρ Q P R hu k =>
  ha H F σ ρ _ _ R hu fun H1 F1 x dx ρ1 e1 k1 R1 r1 p1 => hb H1 F1 σ ρ1 _ _ R1 p1 fun H2 F2 y dy ρ2 e2 k2 R2 r2 p2 => by
    unfold qMrk at p2
    split at p2
    · cases r1
      cases r2 with
      | mrk hm =>
        exact ⟨_, _, rfl, mrk_get _ (R2.fh _ _ hm), by rw [mkD_has]; exact k H2 F2 _ _ ρ2 (e1.trans e2) (k1.trans k2) R2 .bl p2⟩
    · exact p2.elim
theorem sE_dnotin (ha : SimW B ta ua) (hb : SimW B tb ub) : SimE B (tDNotIn ta tb) (uMrk true ua ub) := fun H F σ ρ Q P R hu k =>
  ha H F σ ρ _ _ R hu fun H1 F1 x dx ρ1 e1 k1 R1 r1 p1 => hb H1 F1 σ ρ1 _ _ R1 p1 fun H2 F2 y dy ρ2 e2 k2 R2 r2 p2 => by
    unfold qMrk at p2
    split at p2
    · cases r1
      cases r2 with
      | mrk hm =>
        exact ⟨_, _, rfl, mrk_get _ (R2.fh _ _ hm), by rw [mkD_has]; exact k H2 F2 _ _ ρ2 (e1.trans e2) (k1.trans k2) R2 .bl p2⟩
    · exact p2.elim
def cutD (xs : List D) (lo hi : Option Int) : List D := (xs.drop (HT.sIx xs.length 0 lo)).take (HT.sIx xs.length xs.length hi - HT.sIx xs.length 0 lo)
abbrev UO := Env → (Option Int → Env → Prop) → Prop
def SimO (B : Bs) (t : TO) (u : UO) : Prop := ∀ H F σ ρ (Q : Option Int → Hp → Prop) (P : Option Int → Env → Prop), RelF B H F σ ρ → u ρ P →
  (∀ H' F' c ρ', Ex F F' → Kq B σ H F ρ H' F' ρ' → RelF B H' F' σ ρ' → P c ρ' → Q c H') → t σ H Q
def uNoPart : UO := fun ρ P => P none ρ
def uPart (a : UE) : UO := fun ρ P => a ρ fun x ρ1 => match x with | .int i => P (some i) ρ1 | _ => False
theorem sO_none : SimO B tNoPart uNoPart := fun H F σ ρ Q P R hu k => k H F none ρ (Ex.refl _) Kq.refl R hu
theorem sO_some (ha : SimW B ta ua) : SimO B (tPart ta) (uPart ua) := fun H F σ ρ Q P R hu k =>
  ha H F σ ρ _ _ R hu fun H1 F1 x dx ρ1 e1 k1 R1 r1 p1 => by
    split at p1
    · cases r1
      exact ⟨_, rfl, k H1 F1 _ ρ1 e1 k1 R1 p1⟩
    · exact p1.elim
def uSlL (a : UE) (l h : UO) : UE := fun ρ P => a ρ fun x ρ1 => l ρ1 fun lo ρ2 => h ρ2 fun hi ρ3 => match x with | .lst xs => P (.lst (cutD xs lo hi)) ρ3 | _ => False
def uSlT (a : UE) (l h : UO) : UE := fun ρ P => a ρ fun x ρ1 => l ρ1 fun lo ρ2 => h ρ2 fun hi ρ3 => match x with | .tup xs => P (.tup (cutD xs lo hi)) ρ3 | _ => False
theorem cut_rep {K : PySem.W.Frag} {C : Addr} {dO : Option Addr} {F : Hp} {vs : List V} {l : List D} (r : Reps K C dO F vs l) (lo hi : Option Int) : Reps K C dO F (cutV vs lo hi) (cutD l lo hi) := by
  unfold cutV cutD
  rw [r.len]
  exact (r.drop _).take _
theorem sN_slL {tl th : TO} {ul uh : UO} (ha : SimW B ta ua) (hl : SimO B tl ul) (hh : SimO B th uh) : SimN B (L2.tSl (rSlL B.K) ta tl th) (uSlL ua ul uh) := fun H F σ ρ Q P R hu k =>
  ha H F σ ρ _ _ R hu fun H1 F1 x dx ρ1 e1 k1 R1 r1 p1 => hl H1 F1 σ ρ1 _ _ R1 p1 fun H2 F2 lo ρ2 e2 k2 R2 p2 => hh H2 F2 σ ρ2 _ _ R2 p2 fun H3 F3 hi ρ3 e3 k3 R3 p3 => by
    split at p3
    · have r3 := (r1.kp e2 k2.kp).kp e3 k3.kp
      obtain ⟨p, vs, rfl, _, a, b⟩ := r3
      refine ⟨p, vs, rfl, lOf a, fun q hq => ?_⟩
      obtain ⟨s, hF⟩ := new_own (vs := cutV vs lo hi) R3.toRelH hq
      have e := k1.trans (k2.trans k3)
      exact k _ _ q _ _ ρ3 ((e1.trans (e2.trans e3)).trans s.ex) (e.trans (s.kq R3)) (s.rel _ _ R3) (e.kp.back (R3.toRelH.nd hq) hq) (R3.fresh R3 hq fun _ _ h => h) hF upd_same (cut_rep b lo hi) p3
    · exact p3.elim
theorem cut_all {α : Type} {xs : List α} {lo hi : Option Int} (h : HT.sIx xs.length 0 lo = 0 ∧ HT.sIx xs.length xs.length hi = xs.length) : (xs.drop (HT.sIx xs.length 0 lo)).take (HT.sIx xs.length xs.length hi - HT.sIx xs.length 0 lo) = xs := by
  rw [h.1, h.2, List.drop_zero, Nat.sub_zero, List.take_length]
theorem sE_slT {tl th : TO} {ul uh : UO} (ha : SimW B ta ua) (hl : SimO B tl ul) (hh : SimO B th uh) : SimE B (L2.tSl (rSlA B.K) ta tl th) (uSlT ua ul uh) := fun H F σ ρ Q P R hu k =>
  ha H F σ ρ _ _ R hu fun H1 F1 x dx ρ1 e1 k1 R1 r1 p1 => hl H1 F1 σ ρ1 _ _ R1 p1 fun H2 F2 lo ρ2 e2 k2 R2 p2 => hh H2 F2 σ ρ2 _ _ R2 p2 fun H3 F3 hi ρ3 e3 k3 R3 p3 => by
    split at p3
    · have r3 := (r1.kp e2 k2.kp).kp e3 k3.kp
      obtain ⟨p, vs, rfl, a, b, a'⟩ := r3.tup R3.toRelH
      have e := e1.trans (e2.trans e3)
      have kk := k1.trans (k2.trans k3)
      refine ⟨p, vs, rfl, a, fun z => ?_, fun _ q hq => ?_⟩
      · refine k H3 F3 _ _ ρ3 e kk R3 (.tup a' b) ?_
        unfold cutD at p3
        rw [b.len] at z
        rwa [cut_all z] at p3
      · obtain ⟨s, r⟩ := new_tup R3.toRelH hq (cut_rep b lo hi)
        exact k _ _ _ _ ρ3 (e.trans s.ex) (kk.trans (s.kq R3)) (s.rel _ _ R3) r p3
    · exact p3.elim
def uBMS (g : Str → UP) (a : UE) (U : UA) : UE := fun ρ P => a ρ fun x ρ1 => match x with | .str z => U ρ1 fun xs ρ2 => g z xs fun d => P d ρ2 | _ => False
def gSplit (a : Str) : UP := fun ds P => match ds with | [.str b] => ((b.length == 0) = false ∧ a.length + 2 ≤ sizeLine) ∧ P (.lst (strL (Txt.split a b))) | _ => False
def gJoin (a : Str) : UP := fun ds P => match ds with | [.lst l] => ∃ ys : List Str, l = strL ys ∧ (ys.map (·.length)).sum + ys.length * a.length ≤ 16777216 ∧ P (.str (Txt.join a ys)) | _ => False
theorem sE_join (ha : SimW B ta ua) (hA : SimA B A U) : SimE B (tBM B.K "str" (mJoin B.K) ta A) (uBMS gJoin ua U) := fun H F σ ρ Q P R hu k =>
  ha H F σ ρ _ _ R hu fun H1 F1 x dx ρ1 e1 k1 R1 r1 p1 => by
    split at p1
    · cases r1
      refine ⟨rfl, hA H1 F1 σ ρ1 _ _ R1 p1 fun H2 F2 vs ds ρ2 e2 k2 R2 r2 p2 => ?_⟩
      unfold gJoin at p2
      split at p2
      · obtain ⟨v, rfl, a⟩ := r2.one
        obtain ⟨ys, rfl, hz, p2⟩ := p2
        obtain ⟨p, ws, rfl, _, b, c⟩ := a
        have e := c.strs
        subst e
        exact ⟨_, p, ys, rfl, rfl, .inl (lOf b), hz, k H2 F2 _ _ ρ2 (e1.trans e2) (k1.trans k2) R2 .str p2⟩
      · exact p2.elim
    · exact p1.elim
theorem sN_split (ha : SimW B ta ua) (hA : SimA B A U) : SimN B (tBM B.K "str" mSplit ta A) (uBMS gSplit ua U) := fun H F σ ρ Q P R hu k =>
  ha H F σ ρ _ _ R hu fun H1 F1 x dx ρ1 e1 k1 R1 r1 p1 => by
    split at p1
    · cases r1
      refine ⟨rfl, hA H1 F1 σ ρ1 _ _ R1 p1 fun H2 F2 vs ds ρ2 e2 k2 R2 r2 p2 => ?_⟩
      unfold gSplit at p2
      split at p2
      · obtain ⟨v, rfl, a⟩ := r2.one
        cases a
        refine ⟨_, _, rfl, rfl, p2.1.1, p2.1.2, fun p hp => ?_⟩
        obtain ⟨s, hF⟩ := new_own (vs := (Txt.split _ _).map V.str) R2.toRelH hp
        have kk := k1.trans k2
        exact k _ _ p _ _ ρ2 ((e1.trans e2).trans s.ex) (kk.trans (s.kq R2)) (s.rel _ _ R2) (kk.kp.back (R2.toRelH.nd hp) hp) (R2.fresh R2 hp fun _ _ h => h) hF upd_same (Reps.ofStrs _) p2.2
      · exact p2.elim
    · exact p1.elim
end
end TkL


namespace TkL
open PySem PySem.Spec PySem.Calls PyProof.Rows L2 Tk
structure UEnds where
  nx : Env → Prop
  rt : D → Prop
  bk : Env → Prop := fun _ => False
  ct : Env → Prop := fun _ => False
abbrev US := UEnds → Env → Prop
abbrev UG := D → Env → (Env → Prop) → Prop
abbrev UGs := List D → Env → (Env → Prop) → Prop
abbrev UI := Env → (List D → Env → Prop) → Prop
structure Kn (B : Bs) (F : Hp) (D1 : Ends) (P : UEnds) : Prop where
  nx : ∀ H' F' σ' ρ', Ex F F' → RelF B H' F' σ' ρ' → P.nx ρ' → D1.nx σ' H'
  rt : ∀ H' F' v d, Ex F F' → RelH B H' F' → Rep B.K B.C B.dO F' v d → P.rt d → D1.rt v H'
  bk : ∀ H' F' σ' ρ', Ex F F' → RelF B H' F' σ' ρ' → P.bk ρ' → D1.bk σ' H'
  ct : ∀ H' F' σ' ρ', Ex F F' → RelF B H' F' σ' ρ' → P.ct ρ' → D1.ct σ' H'
theorem Kn.up {B : Bs} {F F1 : Hp} {D1 : Ends} {P : UEnds} (k : Kn B F D1 P) (e : Ex F F1) : Kn B F1 D1 P :=
  ⟨fun H' F' σ' ρ' e' => k.nx H' F' σ' ρ' (e.trans e'), fun H' F' v d e' => k.rt H' F' v d (e.trans e'), fun H' F' σ' ρ' e' => k.bk H' F' σ' ρ' (e.trans e'), fun H' F' σ' ρ' e' => k.ct H' F' σ' ρ' (e.trans e')⟩
def SimS (B : Bs) (t : TS) (u : US) : Prop := ∀ H F σ ρ (D1 : Ends) (P : UEnds), RelF B H F σ ρ → u P ρ → Kn B F D1 P → t D1 σ H
def SimG (B : Bs) (g : TG) (u : UG) : Prop := ∀ H F σ ρ v d (Q : L2.St → Hp → Prop) (P : Env → Prop), RelF B H F σ ρ → Rep B.K B.C B.dO F v d → u d ρ P → (∀ σ' ρ', RelF B H F σ' ρ' → P ρ' → Q σ' H) → g v σ H Q
def SimGs (B : Bs) (g : TGs) (u : UGs) : Prop := ∀ H F σ ρ v d (Q : L2.St → Hp → Prop) (P : Env → Prop), RelF B H F σ ρ → Reps B.K B.C B.dO F v d → u d ρ P → (∀ σ' ρ', RelF B H F σ' ρ' → P ρ' → Q σ' H) → g v σ H Q
def uName (i : Nat) : UG := fun d ρ P => P (ρ.set i (.val d))
def uGNil : UGs := fun ds ρ P => ds = [] ∧ P ρ
def uGCons (a : UG) (b : UGs) : UGs := fun ds ρ P => ∃ d r, ds = d :: r ∧ a d ρ fun ρ1 => b r ρ1 P
def uGTup (n : Nat) (b : UGs) : UG := fun d ρ P => match d with | .tup ds => ds.length = n ∧ b ds ρ P | _ => False
def uNext : US := fun P ρ => P.nx ρ
def uBreak : US := fun P ρ => P.bk ρ
def uCont : US := fun P ρ => P.ct ρ
def uSeq (a b : US) : US := fun P ρ => a { P with nx := b P } ρ
def uDrop (a : UE) : US := fun P ρ => a ρ fun _ ρ1 => P.nx ρ1
def uRet (a : UE) : US := fun P ρ => a ρ fun d _ => P.rt d
def uRetN : US := fun P _ => P.rt .non
def uIfS (c : UT) (a b : US) : US := fun P ρ => c ρ fun k ρ1 => if k = true then a P ρ1 else b P ρ1
def uAsg (a : UE) (g : UG) : US := fun P ρ => a ρ fun d ρ1 => g d ρ1 P.nx
def uAsgO (a : UE) (i : Nat) : US := fun P ρ => a ρ fun d ρ1 => match d with | .lst l => P.nx (ρ1.set i (.own l)) | _ => False
def uPar (i j : Nat) (a : UA) : US := fun P ρ => a ρ fun ds ρ1 => match ds with | [x, y] => P.nx ((ρ1.set i (.val x)).set j (.val y)) | _ => False
def uPar3 (i j k : Nat) (a : UA) : US := fun P ρ => a ρ fun ds ρ1 => match ds with | [x, y, z] => P.nx (((ρ1.set i (.val x)).set j (.val y)).set k (.val z)) | _ => False
def uAug (i : Nat) (a : UE) (f : Int → Int → Int) : US := fun P ρ => ∃ x, ρ[i]? = some (.val (.int x)) ∧ a ρ fun d ρ1 => ∃ y, d = .int y ∧ P.nx (ρ1.set i (.val (.int (f x y))))
def uApp (i : Nat) (a : UE) : US := fun P ρ => (∃ l0, ρ[i]? = some (.own l0)) ∧ a ρ fun d ρ1 => ∃ l, ρ1[i]? = some (.own l) ∧ l.length < 1000000 ∧ P.nx (ρ1.set i (.own (l ++ [d])))
def uExt (i : Nat) (a : UE) : US := fun P ρ => (∃ l0, ρ[i]? = some (.own l0)) ∧ a ρ fun d ρ1 => ∃ l m, ρ1[i]? = some (.own l) ∧ d = .lst m ∧ l.length + m.length ≤ 1000000 ∧ P.nx (ρ1.set i (.own (l ++ m)))
def uSetI (i : Nat) (a b : UE) : US := fun P ρ => b ρ fun d ρ1 => (∃ l0, ρ1[i]? = some (.own l0)) ∧ a ρ1 fun x ρ2 => ∃ l k j, ρ2[i]? = some (.own l) ∧ x = .int k ∧ ixN l.length k = some j ∧ P.nx (ρ2.set i (.own (l.set j d)))
def uPopAt (i : Nat) (a : UE) : UE := fun ρ P => (∃ l0, ρ[i]? = some (.own l0)) ∧ a ρ fun x ρ1 => ∃ l n k d, ρ1[i]? = some (.own l) ∧ x = .int n ∧ (-(2 ^ 63) ≤ n ∧ n < 2 ^ 63) ∧ seqIndex? n l.length = some k ∧ l[k]? = some d ∧ P d (ρ1.set i (.own (l.eraseIdx k)))
def uFor (it : UI) (g : UG) (b : US) : US := fun P ρ => it ρ fun xs ρ1 => ∃ I : Nat → Env → Prop, I 0 ρ1 ∧ (∀ i x ρ, xs[i]? = some x → I i ρ → g x ρ fun ρ2 => b { P with nx := I (i + 1), ct := I (i + 1), bk := P.nx } ρ2) ∧ ∀ ρ, I xs.length ρ → P.nx ρ
def uWhile (c : UT) (b : US) : US := fun P ρ => ∃ I : Nat → Env → Prop, (∃ m, I m ρ) ∧ ∀ m ρ, I m ρ → c ρ fun k ρ1 => if k = true then b { P with nx := fun ρ' => ∃ m', m' < m ∧ I m' ρ', ct := fun ρ' => ∃ m', m' < m ∧ I m' ρ', bk := P.nx } ρ1 else P.nx ρ1
structure Wu (B : Bs) (J : It) (F : Hp) (xs : List D) : Prop where
  go : ∀ H i, Ex F H → i < xs.length → J.go i H
  st : ∀ H i, Ex F H → xs.length ≤ i → J.stop i H
  yl : ∀ H F1 i v H', Ex F F1 → RelH B H F1 → i < xs.length → J.yld i H v H' → ∃ F2 d, St1 B H F1 H' F2 ∧ xs[i]? = some d ∧ Rep B.K B.C B.dO F2 v d
def SimI (B : Bs) (t : TI) (u : UI) : Prop := ∀ H F σ ρ (R : It → Hp → Prop) (P : List D → Env → Prop), RelF B H F σ ρ → u ρ P →
  (∀ H' F' J xs ρ', Ex F F' → Kq B σ H F ρ H' F' ρ' → RelF B H' F' σ ρ' → Wu B J F' xs → P xs ρ' → R J H') → t σ H R
def uIL (a : UE) : UI := fun ρ P => a ρ fun d ρ1 => match d with | .lst l => P l ρ1 | _ => False
def uIT (a : UE) : UI := fun ρ P => a ρ fun d ρ1 => match d with | .tup l => P l ρ1 | _ => False
def uISeq (a : UE) : UI := fun ρ P => a ρ fun d ρ1 => match d with | .lst l => P l ρ1 | .tup l => P l ρ1 | _ => False
def rngD (lo : Int) (n : Nat) : List D := (List.range n).map fun (k : Nat) => D.int (lo + (k : Int))
theorem rngD_length {lo : Int} {n : Nat} : (rngD lo n).length = n := by unfold rngD; simp
theorem rngD_get {lo : Int} {n i : Nat} (h : i < n) : (rngD lo n)[i]? = some (D.int (lo + (i : Int))) := by
  unfold rngD; simp [List.getElem?_range h]
def uIRng1 (a : UA) : UI := fun ρ P => a ρ fun ds ρ1 => match ds with | [.int j] => (-(2 ^ 62) ≤ j ∧ j < 2 ^ 62) ∧ P (rngD 0 j.toNat) ρ1 | _ => False
def uIRng2 (a : UA) : UI := fun ρ P => a ρ fun ds ρ1 => match ds with | [.int i, .int j] => (-(2 ^ 62) ≤ i ∧ i < 2 ^ 62 ∧ -(2 ^ 62) ≤ j ∧ j < 2 ^ 62) ∧ P (rngD i (j - i).toNat) ρ1 | _ => False
section
variable {B : Bs} {t ta tb tc te td : TE} {u ua ub uc ue ud : UE} {tt tt' : TT} {ut ut' : UT} {A : TA} {U : UA} {ts ts' : TS} {us us' : US}
theorem sG_name {i : Nat} : SimG B (gName i) (uName i) := fun H F σ ρ v d Q P R r hu k => k _ _ (R.setV r) hu
theorem sGs_nil : SimGs B gNil uGNil := fun H F σ ρ v d Q P R r hu k => by
  obtain ⟨rfl, hu⟩ := hu
  cases r
  exact ⟨rfl, k σ ρ R hu⟩
theorem sGs_cons {g : TG} {gs : TGs} {a : UG} {b : UGs} (h : SimG B g a) (h' : SimGs B gs b) : SimGs B (gCons g gs) (uGCons a b) := fun H F σ ρ v d Q P R r hu k => by
  obtain ⟨d, ds, rfl, hu⟩ := hu
  cases r with
  | cons r1 r2 => exact ⟨_, _, rfl, h H F σ ρ _ _ _ _ R r1 hu fun σ1 ρ1 R1 p1 => h' H F σ1 ρ1 _ _ _ _ R1 r2 p1 k⟩
theorem sG_tup {n : Nat} {gs : TGs} {b : UGs} (h : SimGs B gs b) : SimG B (gTup B.K n gs) (uGTup n b) := fun H F σ ρ v d Q P R r hu k => by
  unfold uGTup at hu
  split at hu
  · cases r with
    | tup h1 h2 => exact ⟨_, _, rfl, R.fh.sqT h1, by rw [h2.len]; exact hu.1, h H F σ ρ _ _ _ _ R h2 hu.2 k⟩
  · exact hu.elim
theorem sS_next : SimS B tNext uNext := fun H F σ ρ D1 P R hu k => k.nx H F σ ρ (Ex.refl _) R hu
theorem sS_break : SimS B tBreak uBreak := fun H F σ ρ D1 P R hu k => k.bk H F σ ρ (Ex.refl _) R hu
theorem sS_cont : SimS B tCont uCont := fun H F σ ρ D1 P R hu k => k.ct H F σ ρ (Ex.refl _) R hu
theorem sS_seq (h : SimS B ts us) (h' : SimS B ts' us') : SimS B (tSeq ts ts') (uSeq us us') := fun H F σ ρ D1 P R hu k =>
  h H F σ ρ _ _ R hu ⟨fun H' F' σ' ρ' e R' p => h' H' F' σ' ρ' _ _ R' p (k.up e), k.rt, k.bk, k.ct⟩
theorem sS_drop (h : SimW B ta ua) : SimS B (tDrop ta) (uDrop ua) := fun H F σ ρ D1 P R hu k => h H F σ ρ _ _ R hu fun H1 F1 v d ρ1 e1 k1 R1 r1 p1 => k.nx H1 F1 σ ρ1 e1 R1 p1
theorem sS_ret (h : SimE B ta ua) : SimS B (tRet ta) (uRet ua) := fun H F σ ρ D1 P R hu k => h H F σ ρ _ _ R hu fun H1 F1 v d ρ1 e1 k1 R1 r1 p1 => k.rt H1 F1 v d e1 R1.toRelH r1 p1
theorem sS_retN : SimS B tRetN uRetN := fun H F σ ρ D1 P R hu k => k.rt H F _ _ (Ex.refl _) R.toRelH .non hu
theorem sS_if (hc : SimT B tt ut) (h : SimS B ts us) (h' : SimS B ts' us') : SimS B (tIfS tt ts ts') (uIfS ut us us') := fun H F σ ρ D1 P R hu k =>
  hc H F σ ρ _ _ R hu fun H1 F1 c ρ1 e1 k1 R1 p1 => by
    cases c with
    | true => exact h H1 F1 σ ρ1 D1 P R1 p1 (k.up e1)
    | false => exact h' H1 F1 σ ρ1 D1 P R1 p1 (k.up e1)
theorem sS_asg {g : TG} {ug : UG} (h : SimE B ta ua) (hg : SimG B g ug) : SimS B (tAsg ta g) (uAsg ua ug) := fun H F σ ρ D1 P R hu k =>
  h H F σ ρ _ _ R hu fun H1 F1 v d ρ1 e1 k1 R1 r1 p1 => hg H1 F1 σ ρ1 v d _ _ R1 r1 p1 fun σ' ρ' R' p' => k.nx H1 F1 σ' ρ' e1 R' p'
theorem sS_asgO {i : Nat} (h : SimN B ta ua) : SimS B (tAsg ta (gName i)) (uAsgO ua i) := fun H F σ ρ D1 P R hu k =>
  h H F σ ρ _ _ R hu fun H1 F1 p vs l ρ1 e1 k1 R1 hp hn hF hH rp p1 =>
    k.nx H1 F1 _ _ e1 (R1.setG (fun d z => by cases z) fun l' z => by
      cases z
      exact ⟨p, vs, rfl, R.toRelH.n0 hp, hF, hH, rp, fun j m _ e => hn j m e⟩) p1
theorem sS_par {i j : Nat} (h : SimP B A U) : SimS B (tPar i j A) (uPar i j U) := fun H F σ ρ D1 P R hu k =>
  h H F σ ρ _ _ R hu fun H1 F1 vs ds ρ1 e1 k1 R1 r1 p1 => by
    split at p1
    · cases r1 with | cons a r1 => cases r1 with | cons b r1 => cases r1; exact ⟨_, _, rfl, k.nx H1 F1 _ _ e1 ((R1.setV a).setV b) p1⟩
    · exact p1.elim
theorem sS_par3 {i j l : Nat} (h : SimP B A U) : SimS B (tPar3 i j l A) (uPar3 i j l U) := fun H F σ ρ D1 P R hu k =>
  h H F σ ρ _ _ R hu fun H1 F1 vs ds ρ1 e1 k1 R1 r1 p1 => by
    split at p1
    · cases r1 with | cons a r1 => cases r1 with | cons b r1 => cases r1 with | cons c r1 => cases r1; exact ⟨_, _, _, rfl, k.nx H1 F1 _ _ e1 (((R1.setV a).setV b).setV c) p1⟩
    · exact p1.elim
theorem sS_aug {i : Nat} {f : Int → Int → Int} (h : SimW B ta ua) : SimS B (tAug i ta (ipI f)) (uAug i ua f) := fun H F σ ρ D1 P R hu k => by
  obtain ⟨x, e, hu⟩ := hu
  obtain ⟨v, a, b⟩ := R.val i _ e
  cases b
  refine ⟨_, a, h H F σ ρ _ _ R hu fun H1 F1 v d ρ1 e1 k1 R1 r1 p1 => ?_⟩
  obtain ⟨y, rfl, p1⟩ := p1
  cases r1
  exact ⟨_, _, rfl, rfl, k.nx H1 F1 _ _ e1 (R1.setV .int) p1⟩
theorem RelF.mut {H F : Hp} {σ : L2.St} {ρ : Env} (R : RelF B H F σ ρ) {i : Nat} {l l' : List D} {p : Addr} {vs' : List V} (hi : ρ[i]? = some (.own l)) (hp : σ[i]? = some (some (.ref p))) (r : Reps B.K B.C B.dO F vs' l') : RelF B (upd H p (.lst vs')) F σ (ρ.set i (.own l')) := by
  obtain ⟨p', vs, a, b, c, d, g⟩ := R.own i l hi
  rw [hp] at a
  cases a
  have own' : ∀ (j : Nat) m, (ρ.set i (.own l'))[j]? = some (.own m) → (j = i ∧ m = l') ∨ (j ≠ i ∧ ρ[j]? = some (.own m)) := fun j m e => by
    rw [List.getElem?_set] at e
    by_cases cj : i = j
    · rw [if_pos cj] at e
      split at e
      · cases e; exact .inl ⟨cj.symm, rfl⟩
      · cases e
    · rw [if_neg cj] at e; exact .inr ⟨fun z => cj z.symm, e⟩
  have was : ∀ (j : Nat) m, (ρ.set i (.own l'))[j]? = some (.own m) → ∃ m', ρ[j]? = some (.own m') := fun j m e => by
    rcases own' j m e with ⟨rfl, _⟩ | ⟨_, q⟩
    · exact ⟨l, hi⟩
    · exact ⟨m, q⟩
  refine ⟨⟨fun x o e => ?_, R.ff, R.f0, fun x o h1 h2 => ?_, fun x o n e => ?_, R.hd, fun d' e => ?_⟩, by rw [List.length_set]; exact R.len, fun j d' e => ?_, fun j m e => ?_, fun j k m n q e1 e2 h1 h2 => ?_⟩
  · have : x ≠ p := fun z => by rw [z, c] at e; cases e
    rw [upd_ne this]; exact R.fh x o e
  · by_cases cx : x = p
    · rw [cx, upd_same] at h1; exact ⟨vs', (Option.some.inj h1).symm⟩
    · rw [upd_ne cx] at h1; exact R.lk x o h1 h2
  · have : x ≠ p := fun z => by rw [z, b] at e; cases e
    rw [upd_ne this]; exact R.kp x o n e
  · have : d' ≠ p := fun z => R.hd d' e (by rw [z]; exact b)
    obtain ⟨⟨ds, a1, a2⟩, a3⟩ := R.dd d' e
    exact ⟨⟨ds, by rw [upd_ne this]; exact a1, a2⟩, a3⟩
  · rw [List.getElem?_set] at e
    by_cases cj : i = j
    · rw [if_pos cj] at e; split at e <;> cases e
    · rw [if_neg cj] at e; exact R.val j d' e
  · rcases own' j m e with ⟨rfl, rfl⟩ | ⟨nj, q⟩
    · exact ⟨p, vs', hp, b, c, upd_same, r⟩
    · obtain ⟨q', ws, q1, q2, q3, q4, q5⟩ := R.own j m q
      have : q' ≠ p := fun z => nj (R.inj j i m l q' q hi q1 (by rw [z]; exact hp))
      exact ⟨q', ws, q1, q2, q3, by rw [upd_ne this]; exact q4, q5⟩
  · obtain ⟨m', q1⟩ := was j m e1
    obtain ⟨n', q2⟩ := was k n e2
    exact R.inj j k m' n' q q1 q2 h1 h2
theorem sS_app {i : Nat} (h : SimE B ta ua) : SimS B (tDrop (tBM B.K "list" rAppend (tVar i) (tCons ta tNil))) (uApp i ua) := fun H F σ ρ D1 P R hu k => by
  obtain ⟨⟨l0, e0⟩, hu⟩ := hu
  obtain ⟨p, vs0, a, _, _, d0, _⟩ := R.own i l0 e0
  refine ⟨_, a, .inl ⟨rfl, vs0, lOf d0⟩, h H F σ ρ _ _ R hu fun H1 F1 v d ρ1 e1 k1 R1 r1 p1 => ?_⟩
  obtain ⟨l, e2, hz, p1⟩ := p1
  obtain ⟨p', vs, a', b, c, dd, g⟩ := R1.own i l e2
  rw [a] at a'
  cases a'
  refine ⟨p, vs, v, rfl, rfl, dd, by rw [g.len]; exact sz_lt hz, k.nx _ _ _ _ e1 ?_ p1⟩
  exact R1.mut e2 a (g.app (.cons r1 .nil))
theorem sS_ext {i : Nat} (h : SimE B ta ua) : SimS B (tDrop (tBM B.K "list" rExtend (tVar i) (tCons ta tNil))) (uExt i ua) := fun H F σ ρ D1 P R hu k => by
  obtain ⟨⟨l0, e0⟩, hu⟩ := hu
  obtain ⟨p, vs0, a, _, _, d0, _⟩ := R.own i l0 e0
  refine ⟨_, a, .inl ⟨rfl, vs0, lOf d0⟩, h H F σ ρ _ _ R hu fun H1 F1 v d ρ1 e1 k1 R1 r1 p1 => ?_⟩
  obtain ⟨l, m, e2, rfl, hz, p1⟩ := p1
  obtain ⟨p', vs, a', b, c, dd, g⟩ := R1.own i l e2
  rw [a] at a'
  cases a'
  cases r1 with
  | lst h1 h2 =>
    refine ⟨p, _, vs, _, rfl, rfl, dd, R1.fh _ _ h1, by rw [g.len, h2.len]; exact sz_of hz, k.nx _ _ _ _ e1 ?_ p1⟩
    exact R1.mut e2 a (g.app h2)
theorem sS_setI {i : Nat} (ha : SimW B ta ua) (hb : SimE B tb ub) : SimS B (tAsg tb (gSub (tVar i) ta rSetL)) (uSetI i ua ub) := fun H F σ ρ D1 P R hu k =>
  hb H F σ ρ _ _ R hu fun H1 F1 v d ρ1 e1 k1 R1 r1 p1 => by
    obtain ⟨⟨l0, e0⟩, p1⟩ := p1
    obtain ⟨p, vs0, a, _, _, d0, _⟩ := R1.own i l0 e0
    refine ⟨_, a, ha H1 F1 σ ρ1 _ _ R1 p1 fun H2 F2 x dx ρ2 e2 k2 R2 r2 p2 => ?_⟩
    obtain ⟨l, n, j, e3, rfl, hj, p2⟩ := p2
    cases r2
    obtain ⟨p', vs, a', b, c, dd, g⟩ := R2.own i l e3
    rw [a] at a'
    cases a'
    refine ⟨p, vs, _, j, rfl, rfl, dd, by rw [g.len]; exact hj, k.nx _ _ _ _ (e1.trans e2) ?_ p2⟩
    exact R2.mut e3 a (g.setAt j (r1.ex e2))
theorem sS_asgPop {i j : Nat} (ha : SimW B ta ua) : SimS B (tAsg (tBM B.K "list" rPopAt (tVar i) (tCons ta tNil)) (gName j)) (uAsg (uPopAt i ua) (uName j)) := fun H F σ ρ D1 P R hu k => by
  obtain ⟨⟨l0, e0⟩, hu⟩ := hu
  obtain ⟨p, vs0, a, _, _, d0, _⟩ := R.own i l0 e0
  refine ⟨_, a, .inl ⟨rfl, vs0, lOf d0⟩, ha H F σ ρ _ _ R hu fun H1 F1 v dv ρ1 e1 k1 R1 r1 p1 => ?_⟩
  obtain ⟨l, n, kk, d, e2, rfl, hz, hk, hd, p1⟩ := p1
  cases r1
  obtain ⟨p', vs, a', b, c, dd, g⟩ := R1.own i l e2
  rw [a] at a'
  cases a'
  obtain ⟨y, hy, ry⟩ := g.get' hd
  refine ⟨p, vs, _, kk, y, rfl, rfl, dd, hz.1, hz.2, by rw [g.len]; exact hk, hy, ?_⟩
  exact k.nx _ _ _ _ e1 ((R1.mut e2 a (g.erase kk)).setV ry) p1
theorem sS_appPop {i j : Nat} (hij : i ≠ j) (ha : SimW B ta ua) : SimS B (tDrop (tBM B.K "list" rAppend (tVar j) (tCons (tBM B.K "list" rPopAt (tVar i) (tCons ta tNil)) tNil))) (uApp j (uPopAt i ua)) := fun H F σ ρ D1 P R hu k => by
  obtain ⟨⟨m0, f0⟩, ⟨l0, e0⟩, hu⟩ := hu
  obtain ⟨q, ws0, a2, _, _, d2, _⟩ := R.own j m0 f0
  refine ⟨_, a2, .inl ⟨rfl, ws0, lOf d2⟩, ?_⟩
  obtain ⟨p, vs0, a, _, _, d0, _⟩ := R.own i l0 e0
  refine ⟨_, a, .inl ⟨rfl, vs0, lOf d0⟩, ha H F σ ρ _ _ R hu fun H1 F1 v dv ρ1 e1 k1 R1 r1 p1 => ?_⟩
  obtain ⟨l, n, kk, d, e2, rfl, hz, hk, hd, p1⟩ := p1
  cases r1
  obtain ⟨p', vs, a', b, c, dd, g⟩ := R1.own i l e2
  rw [a] at a'
  cases a'
  obtain ⟨y, hy, ry⟩ := g.get' hd
  refine ⟨p, vs, _, kk, y, rfl, rfl, dd, hz.1, hz.2, by rw [g.len]; exact hk, hy, ?_⟩
  obtain ⟨m, e3, hm, p1⟩ := p1
  have R2 := R1.mut e2 a (g.erase kk)
  obtain ⟨q', ws, b1, _, _, b4, b5⟩ := R2.own j m e3
  rw [a2] at b1
  cases b1
  refine ⟨q, ws, y, rfl, rfl, b4, by rw [b5.len]; exact sz_lt hm, k.nx _ _ _ _ e1 ?_ p1⟩
  exact R2.mut e3 a2 (b5.app (.cons ry .nil))
theorem Wu.of {J : It} {F : Hp} {vs : List V} {xs : List D} (w : Wk J F vs) (r : Reps B.K B.C B.dO F vs xs) : Wu B J F xs :=
  ⟨fun H i e hi => w.go H i e (by rw [r.len]; exact hi), fun H i e hi => w.st H i e (by rw [r.len]; exact hi), fun H F1 i v H' e R hi y => by
    obtain ⟨rfl, h⟩ := w.yl H i v H' (e.trans R.fh) (by rw [r.len]; exact hi) y
    obtain ⟨d, h1, h2⟩ := r.get h
    exact ⟨F1, d, .refl, h1, h2.ex e⟩⟩
theorem Wu.up {J : It} {F F' : Hp} {xs : List D} (w : Wu B J F xs) (e : Ex F F') : Wu B J F' xs :=
  ⟨fun H i e' => w.go H i (e.trans e'), fun H i e' => w.st H i (e.trans e'), fun H F1 i v H' e' => w.yl H F1 i v H' (e.trans e')⟩
theorem Reps.rng {K : PySem.W.Frag} {C : Addr} {dO : Option Addr} {F : Hp} (lo : Int) (n : Nat) : Reps K C dO F (rngV lo n) (rngD lo n) := by
  unfold rngV rngD
  induction List.range n with
  | nil => exact .nil
  | cons a l ih => exact .cons .int ih
theorem sI_rng1 (hA : SimA B A U) : SimI B (iRng1 A) (uIRng1 U) := fun H F σ ρ Rr P R hu k =>
  hA H F σ ρ _ _ R hu fun H1 F1 vs ds ρ1 e1 k1 R1 r1 p1 => by
    split at p1
    · obtain ⟨v, rfl, a⟩ := r1.one
      cases a
      exact ⟨_, rfl, p1.1.1, p1.1.2, k H1 F1 _ _ ρ1 e1 k1 R1 (Wu.of Wk.rng (Reps.rng 0 _)) p1.2⟩
    · exact p1.elim
theorem sI_rng2 (hA : SimA B A U) : SimI B (iRng2 A) (uIRng2 U) := fun H F σ ρ Rr P R hu k =>
  hA H F σ ρ _ _ R hu fun H1 F1 vs ds ρ1 e1 k1 R1 r1 p1 => by
    split at p1
    · obtain ⟨v, w, rfl, a, b⟩ := r1.two
      cases a; cases b
      exact ⟨_, _, rfl, p1.1, k H1 F1 _ _ ρ1 e1 k1 R1 (Wu.of Wk.rng (Reps.rng _ _)) p1.2⟩
    · exact p1.elim
theorem sI_list (ha : SimE B ta ua) : SimI B (iList B.K ta) (uIL ua) := fun H F σ ρ Rr P R hu k =>
  ha H F σ ρ _ _ R hu fun H1 F1 v d ρ1 e1 k1 R1 r1 p1 => by
    split at p1
    · cases r1 with
      | lst h1 h2 => exact ⟨_, rfl, ⟨_, lOf (R1.fh _ _ h1)⟩, k H1 F1 _ _ ρ1 e1 k1 R1 (Wu.of (Wk.list (lOf h1)) h2) p1⟩
    · exact p1.elim
theorem sI_tup (ha : SimE B ta ua) : SimI B (iTup B.K ta) (uIT ua) := fun H F σ ρ Rr P R hu k =>
  ha H F σ ρ _ _ R hu fun H1 F1 v d ρ1 e1 k1 R1 r1 p1 => by
    split at p1
    · cases r1 with
      | tup h1 h2 => exact ⟨_, rfl, ⟨_, R1.fh.sqT h1⟩, k H1 F1 _ _ ρ1 e1 k1 R1 (Wu.of (Wk.tup h1) h2) p1⟩
    · exact p1.elim
def enD (xs : List D) : List D := (List.range xs.length).map fun i => .tup [.int (i : Nat), xs.getD i .non]
theorem enD_length {xs : List D} : (enD xs).length = xs.length := by unfold enD; simp
theorem enD_get {xs : List D} {i : Nat} {d : D} (h : xs[i]? = some d) : (enD xs)[i]? = some (.tup [.int (i : Nat), d]) := by
  have hi : i < xs.length := (List.getElem?_eq_some_iff.mp h).1
  unfold enD
  simp [List.getElem?_range hi, h]
def uEnum (a : UA) : UI := fun ρ P => a ρ fun ds ρ1 => match ds with | [.lst l] => P (enD l) ρ1 | [.tup l] => P (enD l) ρ1 | _ => False
theorem sI_enum (hA : SimP B A U) : SimI B (iEnumA B.K A) (uEnum U) := fun H F σ ρ Rr P R hu k =>
  hA H F σ ρ _ _ R hu fun H1 F1 vs ds ρ1 e1 k1 R1 r1 p1 => by
    have key : ∀ {J : It} {ws : List V} {l : List D} {T : V → Hp → Prop}, Reps B.K B.C B.dO F1 ws l → (∀ H i, Ex F1 H → i < ws.length → J.go i H) → (∀ H i, Ex F1 H → ws.length ≤ i → J.stop i H) →
        (∀ H i v H', Ex F1 H → J.yld i H v H' → ∃ T x, v = .ref T ∧ H T = none ∧ H' = upd H T (.tup [.int (i : Nat), x]) ∧ ws[i]? = some x) → Wu B J F1 (enD l) := fun {J ws l T} r g st yl =>
      ⟨fun H i e hi => g H i e (by rw [r.len, ← enD_length]; exact hi), fun H i e hi => st H i e (by rw [r.len, ← enD_length]; exact hi), fun H F2 i v H' e R2 hi y => by
        obtain ⟨T, x, rfl, hT, rfl, hx⟩ := yl H i v H' (e.trans R2.fh) y
        obtain ⟨d, h1, h2⟩ := r.get hx
        obtain ⟨s, rp⟩ := new_tup R2 hT (.cons (.int (i := (i : Nat))) (.cons (h2.ex e) .nil))
        exact ⟨_, _, s, enD_get h1, rp⟩⟩
    unfold uEnum at *
    split at p1
    · cases r1 with | cons a r1 =>
        cases r1
        cases a with
        | lst h1 h2 =>
          refine ⟨_, _, rfl, .inl ⟨lOf (R1.fh _ _ h1), k H1 F1 _ _ ρ1 e1 k1 R1 (key (T := fun _ _ => True) h2 (fun H i e hi => ⟨_, _, e.sqL (lOf h1), List.getElem?_eq_getElem hi⟩) (fun H i e hi => ⟨_, e.sqL (lOf h1), hi⟩) fun H i v H' e y => ?_) p1⟩⟩
          obtain ⟨T, x, a1, a2, a3, a4⟩ := y
          exact ⟨T, x, a1, a2, a3, a4 _ (e.sqL (lOf h1))⟩
    · cases r1 with | cons a r1 =>
        cases r1
        cases a with
        | tup h1 h2 =>
          refine ⟨_, _, rfl, .inr ⟨R1.fh.sqT h1, k H1 F1 _ _ ρ1 e1 k1 R1 (key (T := fun _ _ => True) h2 (fun H i e hi => ⟨_, _, e.sqT h1, List.getElem?_eq_getElem hi⟩) (fun H i e hi => ⟨_, e.sqT h1, hi⟩) fun H i v H' e y => ?_) p1⟩⟩
          obtain ⟨T, x, a1, a2, a3, a4⟩ := y
          exact ⟨T, x, a1, a2, a3, a4 _ (e.sqT h1)⟩
    · exact p1.elim
theorem sS_for {ti : TI} {ui : UI} {g : TG} {ug : UG} (hi : SimI B ti ui) (hg : SimG B g ug) (hb : SimS B ts us) : SimS B (tFor ti g ts) (uFor ui ug us) := fun H F σ ρ D1 P R hu k => by
  refine hi H F σ ρ _ _ R hu fun H1 F1 J xs ρ1 e1 k1 R1 w p1 => ?_
  obtain ⟨I, I0, step, fin⟩ := p1
  refine ⟨fun i m σ H => m = xs.length - i ∧ i ≤ xs.length ∧ ∃ F' ρ, Ex F1 F' ∧ RelF B H F' σ ρ ∧ I i ρ, ⟨_, rfl, Nat.zero_le _, F1, ρ1, Ex.refl _, R1, I0⟩, ?_⟩
  rintro i m σ2 H2 ⟨rfl, hle, F2, ρ2, e2, R2, I2⟩
  by_cases hlt : i < xs.length
  · refine .inr ⟨w.go H2 i (e2.trans R2.fh) hlt, fun σ H => ∃ F' ρ, Ex F1 F' ∧ RelF B H F' σ ρ ∧ I (i + 1) ρ, fun σ' H' h => ⟨_, by omega, rfl, hlt, h⟩, fun v H' y => ?_⟩
    obtain ⟨F3, d, s, hd, rp⟩ := w.yl H2 F2 i v H' e2 R2.toRelH hlt y
    have R3 := s.rel _ _ R2
    refine hg H' F3 σ2 ρ2 v d _ _ R3 rp (step i d ρ2 hd I2) fun σ4 ρ4 R4 p4 => ?_
    refine hb H' F3 σ4 ρ4 _ _ R4 p4 ⟨fun H5 F5 σ5 ρ5 e5 R5 p5 => ?_, ((k.up e1).up e2).up s.ex |>.rt, fun H5 F5 σ5 ρ5 e5 R5 p5 => ?_, fun H5 F5 σ5 ρ5 e5 R5 p5 => ?_⟩
    · exact ⟨F5, ρ5, e2.trans (s.ex.trans e5), R5, p5⟩
    · exact k.nx H5 F5 σ5 ρ5 (e1.trans (e2.trans (s.ex.trans e5))) R5 p5
    · exact ⟨F5, ρ5, e2.trans (s.ex.trans e5), R5, p5⟩
  · have e : i = xs.length := by omega
    subst e
    exact .inl ⟨w.st H2 _ (e2.trans R2.fh) (Nat.le_refl _), k.nx H2 F2 σ2 ρ2 (e1.trans e2) R2 (fin ρ2 I2)⟩
theorem sS_while (hc : SimT B tt ut) (hb : SimS B ts us) : SimS B (tWhile tt ts) (uWhile ut us) := fun H F σ ρ D1 P R hu k => by
  obtain ⟨I, ⟨m0, I0⟩, step⟩ := hu
  refine ⟨fun m σ H => ∃ F' ρ, Ex F F' ∧ RelF B H F' σ ρ ∧ I m ρ, ⟨m0, F, ρ, Ex.refl _, R, I0⟩, ?_⟩
  rintro m σ2 H2 ⟨F2, ρ2, e2, R2, I2⟩
  refine hc H2 F2 σ2 ρ2 _ _ R2 (step m ρ2 I2) fun H3 F3 c ρ3 e3 k3 R3 p3 => ?_
  cases c with
  | false => exact k.nx H3 F3 σ2 ρ3 (e2.trans e3) R3 p3
  | true =>
    refine ⟨fun σ' H' => ∃ m', m' < m ∧ ∃ F' ρ, Ex F F' ∧ RelF B H' F' σ' ρ ∧ I m' ρ, fun σ' H' h => h, ?_⟩
    refine hb H3 F3 σ2 ρ3 _ _ R3 p3 ⟨fun H5 F5 σ5 ρ5 e5 R5 p5 => ?_, ((k.up e2).up e3).rt, fun H5 F5 σ5 ρ5 e5 R5 p5 => ?_, fun H5 F5 σ5 ρ5 e5 R5 p5 => ?_⟩
    · obtain ⟨m', hm, q⟩ := p5
      exact ⟨m', hm, F5, ρ5, e2.trans (e3.trans e5), R5, q⟩
    · exact k.nx H5 F5 σ5 ρ5 (e2.trans (e3.trans e5)) R5 p5
    · obtain ⟨m', hm, q⟩ := p5
      exact ⟨m', hm, F5, ρ5, e2.trans (e3.trans e5), R5, q⟩
def wipeU (ρ : Env) : List Nat → Env
  | [] => ρ
  | v :: vs => (wipeU ρ vs).set v .no
def uLc (it : UI) (g : UG) (ct : UT) (el : UE) (vs : List Nat) : UE := fun ρ P => it ρ fun xs ρ1 => ∃ I : Nat → List D → Prop, I 0 [] ∧
  (∀ i x acc, xs[i]? = some x → I i acc → g x (wipeU ρ1 vs) fun ρ2 => ct ρ2 fun b ρ3 => if b = true then el ρ3 fun y ρ4 => wipeU ρ4 vs = wipeU ρ1 vs ∧ acc.length < 1000000 ∧ I (i + 1) (acc ++ [y]) else wipeU ρ3 vs = wipeU ρ1 vs ∧ I (i + 1) acc) ∧
  ∀ acc, I xs.length acc → P (.lst acc) ρ1
def uYes : UT := fun ρ P => P true ρ
theorem sT_yes : SimT B tYes uYes := fun H F σ ρ Q P R hu k => k H F true ρ (Ex.refl _) Kq.refl R hu
theorem RelF.wipe {H F : Hp} {σ : L2.St} {ρ : Env} (R : RelF B H F σ ρ) : ∀ vs : List Nat, RelF B H F (wipe σ vs) (wipeU ρ vs)
  | [] => R
  | v :: vs => (R.wipe vs).setN
theorem wipe_len (σ : L2.St) (vs : List Nat) : (wipe σ vs).length = σ.length := wipe_length σ vs
theorem wipeU_len (ρ : Env) : ∀ vs : List Nat, (wipeU ρ vs).length = ρ.length
  | [] => rfl
  | v :: vs => by unfold wipeU; rw [List.length_set, wipeU_len ρ vs]
theorem wipeU_own {ρ : Env} {i : Nat} {l : List D} : ∀ {vs : List Nat}, (wipeU ρ vs)[i]? = some (.own l) → ρ[i]? = some (.own l)
  | [], h => h
  | v :: vs, h => by
    unfold wipeU at h
    rw [List.getElem?_set] at h
    by_cases c : v = i
    · rw [if_pos c] at h; split at h <;> cases h
    · rw [if_neg c] at h; exact wipeU_own h
theorem wipeU_in {ρ : Env} {i : Nat} {l : List D} : ∀ {vs : List Nat}, (wipeU ρ vs)[i]? = some (.own l) → i ∉ vs
  | [], h => by simp
  | v :: vs, h => by
    unfold wipeU at h
    rw [List.getElem?_set] at h
    by_cases c : v = i
    · rw [if_pos c] at h; split at h <;> cases h
    · rw [if_neg c] at h
      intro z
      rcases List.mem_cons.mp z with z | z
      · exact c z.symm
      · exact wipeU_in h z
theorem wipeU_out {ρ : Env} {i : Nat} : ∀ {vs : List Nat}, i ∉ vs → (wipeU ρ vs)[i]? = ρ[i]?
  | [], h => rfl
  | v :: vs, h => by
    unfold wipeU
    rw [List.getElem?_set, if_neg fun z => h (by rw [z]; simp), wipeU_out fun z => h (by simp [z])]
theorem wipe_out {σ : L2.St} {i : Nat} : ∀ {vs : List Nat}, i ∉ vs → (wipe σ vs)[i]? = σ[i]?
  | [], h => rfl
  | v :: vs, h => by
    unfold wipe
    rw [List.getElem?_set, if_neg fun z => h (by rw [z]; simp), wipe_out fun z => h (by simp [z])]
theorem RelF.unwipe {H F H' F' : Hp} {σ : L2.St} {ρ : Env} (R : RelF B H F σ ρ) (e : Ex F F') (kp : Kpo B.dO H H') (R' : RelH B H' F') (fz : ∀ p vs', H p = some (.lst vs') → (∃ (i : Nat) (l : List D), ρ[i]? = some (Sl.own l) ∧ σ[i]? = some (some (V.ref p))) → F' p = none) : RelF B H' F' σ ρ :=
  ⟨R', R.len, fun i d h => by
    obtain ⟨v, a, b⟩ := R.val i d h
    exact ⟨v, a, b.ex e⟩, fun i l h => by
    obtain ⟨p, ws, a, b, c, d, g⟩ := R.own i l h
    exact ⟨p, ws, a, b, fz p ws d ⟨i, l, h, a⟩, kp p _ (R.toRelH.d0 b) d, g.ex e⟩, R.inj⟩
def KtW (B : Bs) (g : TG) (u : UG) (vs : List Nat) : Prop := ∀ H F σ ρ v d (Q : L2.St → Hp → Prop) (P : Env → Prop), RelF B H F (wipe σ vs) (wipeU ρ vs) → Rep B.K B.C B.dO F v d → u d (wipeU ρ vs) P →
  (∀ σ' ρ', RelF B H F σ' ρ' → wipe σ' vs = wipe σ vs → (∀ (i : Nat) l, ρ'[i]? = some (.own l) → (wipeU ρ vs)[i]? = some (.own l) ∧ σ'[i]? = (wipe σ vs)[i]?) → P ρ' → Q σ' H) → g v (wipe σ vs) H Q
theorem setV_own {ρ : Env} {σ : L2.St} {i : Nat} {d : D} {x : Option V} (j : Nat) (l : List D) (h : (ρ.set i (.val d))[j]? = some (.own l)) : ρ[j]? = some (.own l) ∧ (σ.set i x)[j]? = σ[j]? := by
  rw [List.getElem?_set] at h ⊢
  by_cases c : i = j
  · rw [if_pos c] at h; split at h <;> cases h
  · rw [if_neg c] at h; rw [if_neg c]; exact ⟨h, rfl⟩
theorem setV_ne {ρ : Env} {i : Nat} {d : D} (j : Nat) (l : List D) (h : (ρ.set i (.val d))[j]? = some (.own l)) : ρ[j]? = some (.own l) ∧ i ≠ j := by
  rw [List.getElem?_set] at h
  by_cases c : i = j
  · rw [if_pos c] at h; split at h <;> cases h
  · rw [if_neg c] at h; exact ⟨h, c⟩
theorem ktw_name {i : Nat} : KtW B (gName i) (uName i) [i] := fun H F σ ρ v d Q P R r hu k => k _ _ (R.setV r) (wipe_set1 σ i (some v)) setV_own hu
theorem ktw_tup2 {i j : Nat} : KtW B (gTup B.K 2 (gCons (gName i) (gCons (gName j) gNil))) (uGTup 2 (uGCons (uName i) (uGCons (uName j) uGNil))) [i, j] := fun H F σ ρ v d Q P R r hu k => by
  unfold uGTup at hu
  split at hu
  · obtain ⟨hl, d1, ds1, e1, d2, ds2, e2, e3, hu⟩ := hu
    subst e1; subst e2; subst e3
    cases r with
    | tup h1 h2 =>
      cases h2 with | cons a h2 => cases h2 with | cons b h2 =>
        cases h2
        refine ⟨_, _, rfl, R.fh.sqT h1, rfl, _, _, rfl, _, _, rfl, rfl, k _ _ ((R.setV a).setV b) (wipe_set2 σ i j (some _) (some _)) (fun n l h => ?_) hu⟩
        obtain ⟨a1, n1⟩ := setV_ne n l h
        obtain ⟨a2, n2⟩ := setV_ne n l a1
        exact ⟨a2, by rw [List.getElem?_set, if_neg n1, List.getElem?_set, if_neg n2]⟩
  · exact hu.elim
theorem RelF.updN {H F : Hp} {σ : L2.St} {ρ : Env} (R : RelF B H F σ ρ) {p : Addr} {vs : List V} (h0 : B.H0 p = none) (hF : F p = none) (hn : ∀ (i : Nat) l, ρ[i]? = some (.own l) → σ[i]? ≠ some (some (.ref p))) : RelF B (upd H p (.lst vs)) F σ ρ := by
  refine ⟨⟨fun x o e => ?_, R.ff, R.f0, fun x o h1 h2 => ?_, fun x o n e => ?_, R.hd, fun d' e => ?_⟩, R.len, R.val, fun j m e => ?_, R.inj⟩
  · have : x ≠ p := fun z => by rw [z, hF] at e; cases e
    rw [upd_ne this]; exact R.fh x o e
  · by_cases cx : x = p
    · rw [cx, upd_same] at h1; exact ⟨vs, (Option.some.inj h1).symm⟩
    · rw [upd_ne cx] at h1; exact R.lk x o h1 h2
  · have : x ≠ p := fun z => by rw [z, h0] at e; cases e
    rw [upd_ne this]; exact R.kp x o n e
  · have : d' ≠ p := fun z => R.hd d' e (by rw [z]; exact h0)
    obtain ⟨⟨ds, a1, a2⟩, a3⟩ := R.dd d' e
    exact ⟨⟨ds, by rw [upd_ne this]; exact a1, a2⟩, a3⟩
  · obtain ⟨q, ws, q1, q2, q3, q4, q5⟩ := R.own j m e
    have : q ≠ p := fun z => hn j m e (by rw [← z]; exact q1)
    exact ⟨q, ws, q1, q2, q3, by rw [upd_ne this]; exact q4, q5⟩
theorem sN_lc {ti : TI} {ui : UI} {g : TG} {ug : UG} {vs : List Nat} (hi : SimI B ti ui) (hg : KtW B g ug vs) (ht : SimT B tt ut) (he : SimE B te ue) : SimN B (tLc ti g tt te vs) (uLc ui ug ut ue vs) := fun H F σ ρ Q P R hu k => by
  refine hi H F σ ρ _ _ R hu fun H1 F1 J xs ρ1 e1 k1 R1 w p1 => fun D hD => ?_
  obtain ⟨I, I0, step, fin⟩ := p1
  have D0 : B.H0 D = none := R1.toRelH.n0 hD
  have Dd : some D ≠ B.dO := R1.toRelH.nd hD
  have hn1 : ∀ (i : Nat) l, ρ1[i]? = some (.own l) → σ[i]? ≠ some (some (.ref D)) := R1.fresh R1 hD fun _ _ h => h
  obtain ⟨s0, hF0⟩ := new_own (vs := []) R1.toRelH hD
  refine ⟨fun i m H => m = xs.length - i ∧ i ≤ xs.length ∧ ∃ F2 acc ws, Ex F1 F2 ∧ Kq B σ H1 F1 ρ1 H F2 ρ1 ∧ RelF B H F2 σ ρ1 ∧ H D = some (.lst ws) ∧ F2 D = none ∧ Reps B.K B.C B.dO F2 ws acc ∧ I i acc,
    ⟨_, rfl, Nat.zero_le _, F1, [], [], Ex.refl _, s0.kq R1, s0.rel _ _ R1, upd_same, hF0, .nil, I0⟩, ?_⟩
  rintro i m H2 ⟨rfl, hle, F2, acc, ws, e2, k2, R2, hD2, hF2, r2, I2⟩
  by_cases hlt : i < xs.length
  · refine .inr ⟨w.go H2 i (e2.trans R2.fh) hlt, fun H => ∃ F2 acc ws, Ex F1 F2 ∧ Kq B σ H1 F1 ρ1 H F2 ρ1 ∧ RelF B H F2 σ ρ1 ∧ H D = some (.lst ws) ∧ F2 D = none ∧ Reps B.K B.C B.dO F2 ws acc ∧ I (i + 1) acc, fun H' h => ⟨_, by omega, rfl, hlt, h⟩, fun v H' y => ?_⟩
    obtain ⟨F3, d, s, hd, rp⟩ := w.yl H2 F2 i v H' e2 R2.toRelH hlt y
    have R3 := s.rel _ _ R2
    have k3 := s.kq R2
    have hD3 : H' D = some (.lst ws) := s.kp D _ Dd hD2
    have hF3 : F3 D = none := s.fz R2.toRelH D (by rw [hD2]; exact Option.some_ne_none _) hF2
    refine hg H' F3 σ ρ1 v d _ _ (R3.wipe vs) rp (step i d acc hd I2) fun σ4 ρ4 R4 w4 o4 p4 => ⟨w4, ?_⟩
    have hn4 : ∀ (i : Nat) l, ρ4[i]? = some (.own l) → σ4[i]? ≠ some (some (.ref D)) := fun i l h z => by
      obtain ⟨a, b⟩ := o4 i l h
      have ni := wipeU_in a
      rw [wipeU_out ni] at a
      rw [b, wipe_out ni] at z
      exact hn1 i l a z
    have back : ∀ {H5 F5 ρ5}, Ex F3 F5 → Kq B σ4 H' F3 ρ4 H5 F5 ρ5 → RelF B H5 F5 σ4 ρ5 → wipeU ρ5 vs = wipeU ρ1 vs → RelF B H5 F5 σ ρ1 ∧ Kq B σ H1 F1 ρ1 H5 F5 ρ1 ∧ H5 D = some (.lst ws) ∧ F5 D = none := fun {H5 F5 ρ5} e5 k5 R5 w5 => by
      have fz : ∀ p, H' p ≠ none → F3 p = none → ((∃ (i : Nat) (l : List TkL.D), ρ1[i]? = some (Sl.own l) ∧ σ[i]? = some (some (V.ref p))) ∨ ∀ (i : Nat) l, ρ1[i]? = some (.own l) → σ[i]? ≠ some (some (.ref p))) → F5 p = none := fun p hp hf c => by
        by_cases q : ∃ (j : Nat) (l : List TkL.D), ρ4[j]? = some (Sl.own l) ∧ σ4[j]? = some (some (V.ref p))
        · obtain ⟨j, l, q1, q2⟩ := q
          obtain ⟨a, b⟩ := o4 j l q1
          have nj := wipeU_in a
          have a' : (wipeU ρ5 vs)[j]? = some (.own l) := by rw [w5]; exact a
          have a5 := wipeU_own a'
          obtain ⟨p', ws', c1, _, c3, _⟩ := R5.own j l a5
          rw [q2] at c1
          cases c1
          exact c3
        · exact k5.pr p hp hf fun j l h z => q ⟨j, l, h, z⟩
      have RR := R3.unwipe e5 k5.kp R5.toRelH fun p vs' hp hown => by
        obtain ⟨i, l, q1, q2⟩ := hown
        obtain ⟨p', ws', c1, _, c3, c4, _⟩ := R3.own i l q1
        rw [q2] at c1
        cases c1
        exact fz p (by rw [c4]; exact Option.some_ne_none _) c3 (.inl ⟨i, l, q1, q2⟩)
      refine ⟨RR, (k2.trans k3).trans ⟨k5.kp, k5.nn, fun i l h => ⟨l, h⟩, fun x h1 h2 h3 => fz x h1 h2 (.inr h3)⟩, k5.kp D _ Dd hD3, k5.pr D (by rw [hD3]; exact Option.some_ne_none _) hF3 hn4⟩
    refine ht H' F3 σ4 ρ4 _ _ R4 p4 fun H5 F5 c ρ5 e5 k5 R5 p5 => ?_
    cases c with
    | false =>
      obtain ⟨b1, b2, b3, b4⟩ := back e5 k5 R5 p5.1
      exact ⟨F5, acc, ws, e2.trans (s.ex.trans e5), b2, b1, b3, b4, r2.ex (s.ex.trans e5), p5.2⟩
    | true =>
      refine he H5 F5 σ4 ρ5 _ _ R5 p5 fun H6 F6 y dy ρ6 e6 k6 R6 r6 p6 => ?_
      obtain ⟨b1, b2, b3, b4⟩ := back (e5.trans e6) (k5.trans k6) R6 p6.1
      refine ⟨ws, b3, by have := (r2.len : ws.length = acc.length); rw [this]; exact sz_lt p6.2.1, F6, acc ++ [dy], ws ++ [y], e2.trans (s.ex.trans (e5.trans e6)), ?_, b1.updN D0 b4 hn1, upd_same, b4, (r2.ex (s.ex.trans (e5.trans e6))).app (.cons r6 .nil), p6.2.2⟩
      refine ⟨fun x o n h => ?_, fun x h => ?_, b2.ow, b2.pr⟩
      · have : x ≠ D := fun z => by rw [z, hD] at h; cases h
        rw [upd_ne this]; exact b2.kp x o n h
      · have : x ≠ D := fun z => h (by rw [z]; exact hD)
        rw [upd_ne this]; exact b2.nn x h
  · have e : i = xs.length := by omega
    subst e
    exact .inl ⟨w.st H2 _ (e2.trans R2.fh) (Nat.le_refl _), k H2 F2 D ws acc ρ1 (e1.trans e2) (k1.trans k2) R2 (k1.kp.back (R.toRelH.nd (k1.kp.back (fun z => Dd z) hD)) hD) hn1 hF2 hD2 r2 (fin acc I2)⟩
def startU (N : List Str) (ds : List D) : Env := ds.map Sl.val ++ List.replicate (N.length - ds.length) Sl.no
theorem rd_of_sim {K : PySem.W.Frag} {C : Addr} {up : UP} {N : List Str} {vs : List V} {H : Hp} {Q : VK} {E : XK} (S : ∀ B : Bs, B.K = K → B.C = C → SimS B ts us) (hl : ∀ ds P, up ds P → ds.length ≤ N.length) (hr : ∀ ds P, up ds P → us { nx := fun _ => P .non, rt := P } (startU N ds)) (h : spU K C up vs H Q E) :
    ts { nx := fun _ H' => Q .non H', rt := Q } (start N vs) H := by
  obtain ⟨dO, F, ds, P, R, r, hu, k⟩ := h
  have hlen := r.len
  have hN := hl ds P hu
  have val : ∀ (i : Nat) d, (startU N ds)[i]? = some (.val d) → ∃ v, (start N vs)[i]? = some (some v) ∧ Rep K C dO F v d := fun i d e => by
    unfold startU at e
    unfold L2.start
    by_cases c : i < ds.length
    · rw [List.getElem?_append_left (by simpa using c), List.getElem?_map] at e
      rw [List.getElem?_append_left (by simpa [hlen] using c), List.getElem?_map]
      cases e1 : ds[i]? with
      | none => rw [e1] at e; cases e
      | some d' =>
        rw [e1] at e
        cases e
        obtain ⟨v, h1, h2⟩ := r.get' e1
        exact ⟨v, by rw [h1]; rfl, h2⟩
    · rw [List.getElem?_append_right (by simpa using c), List.getElem?_replicate] at e
      split at e <;> cases e
  have noown : ∀ (i : Nat) l, (startU N ds)[i]? ≠ some (.own l) := fun i l e => by
    unfold startU at e
    by_cases c : i < ds.length
    · rw [List.getElem?_append_left (by simpa using c), List.getElem?_map] at e
      cases e1 : ds[i]? with
      | none => rw [e1] at e; cases e
      | some d' => rw [e1] at e; cases e
    · rw [List.getElem?_append_right (by simpa using c), List.getElem?_replicate] at e
      split at e <;> cases e
  have RF : RelF ⟨K, C, dO, H, F⟩ H F (start N vs) (startU N ds) := ⟨R, by unfold L2.start startU; simp [hlen], val, fun i l e => absurd e (noown i l), fun i j l m p e => absurd e (noown i l)⟩
  refine S ⟨K, C, dO, H, F⟩ rfl rfl H F _ _ _ _ RF (hr ds P hu) ⟨fun H' F' σ' ρ' e R' p => ?_, fun H' F' v d e R' rp p => k d H' F' v p R' rp, fun _ _ _ _ _ _ h => h.elim, fun _ _ _ _ _ _ h => h.elim⟩
  exact k .non H' F' .non p R'.toRelH .non
theorem len_of_sim {K : PySem.W.Frag} {C : Addr} {up : UP} {n : Nat} {vs : List V} {H : Hp} {Q : VK} {E : XK} (hl : ∀ ds P, up ds P → ds.length = n) (h : spU K C up vs H Q E) : vs.length = n := by
  obtain ⟨dO, F, ds, P, R, r, hu, k⟩ := h
  rw [r.len]; exact hl ds P hu
end
end TkL


namespace TkL
open PySem PySem.Spec PySem.Calls PyProof.Rows L2 Tk
def upCall : UP := fun ds P => ∃ r t, ds = [.row r, .int t] ∧ 0 ≤ t ∧ t ≤ 1000000000000000000 ∧ P (.int (r.count t))
def upCount : UP := fun ds P => ∃ r t, ds = [.row r, .int t] ∧ P (.int (r.count t))
def upHolds : UP := fun ds P => ∃ r t, ds = [.row r, .int t] ∧ P (.bl (r.has t))
def upEq : UP := fun ds P => ∃ r s, ds = [.row r, .row s] ∧ P (.bl (decide (r = s)))
def upContains : UP := fun ds P => ∃ r x, ds = [.row r, x] ∧ ((∃ t, x = .int t ∧ P (.bl (decide (0 ≤ t) && decide (t ≤ 1000000000000000000) && r.has t))) ∨ ((∃ b, x = .bl b) ∨ x = .non ∨ ∃ z, x = .str z) ∧ P (.bl false))
def upBool : UP := fun ds P => ∃ r, ds = [.row r] ∧ P (.bl (decide (0 < (r.early.length : Int) + r.offs.length)))
def upItem : UP := fun ds P => ∃ r n, ds = [.row r, .int n] ∧ 0 ≤ n ∧ n ≤ 1000000000000000000 ∧ (n < r.early.length ∨ r.offs ≠ []) ∧ P (.int (r.nth n))
def upAdd : UP := fun ds P => ∃ r s, ds = [.row r, .row s] ∧ lcmI r.len s.len ≤ 20000 ∧ ∀ q, RB q → (∀ t, q.has t = (r.has t || s.has t)) → P (.row q)
def upAnd : UP := fun ds P => ∃ r s, ds = [.row r, .row s] ∧ lcmI r.len s.len ≤ 20000 ∧ ∀ q, RB q → (∀ t, q.has t = (r.has t && s.has t)) → P (.row q)
def upSub : UP := fun ds P => ∃ r s, ds = [.row r, .row s] ∧ lcmI r.len s.len ≤ 20000 ∧ ∀ q, RB q → (∀ t, q.has t = (r.has t && !s.has t)) → P (.row q)
def upShift : UP := fun ds P => ∃ r h, ds = [.row r, .int h] ∧ 0 ≤ h ∧ r.beg + h ≤ 100000 ∧ ∀ q, RB q → (∀ t, q.has t = r.has (t - h)) → P (.row q)
def upThin : UP := fun ds P => ∃ r n, ds = [.row r, .int n] ∧ RB r ∧ 1 ≤ n ∧ n ≤ 20000 ∧ r.len * n ≤ 20000 ∧ ∀ q, RB q → (∀ t, q.has t = (r.has t && decide ((r.count t - 1) % n = 0))) → P (.row q)
def upEndless : UP := fun ds P => ∃ r, ds = [.row r] ∧ P (.bl (decide (r.offs ≠ [])))
def upRep : UP := fun ds P => ∃ r, ds = [.row r] ∧ P (.tup [.int r.beg, .int r.len, .int r.offs.length])
def upRLaps : UP := fun ds P => ∃ r, ds = [.row r] ∧ P (.tup (iL r.laps))
def upRFlaps : UP := fun ds P => ∃ r, ds = [.row r] ∧ P (.tup (iL r.flaps))
def upText : UP := fun ds P => ∃ r, ds = [.row r] ∧ P (.str (rowText r))
def upParse : UP := fun ds P => ∃ z S, ds = [.cls, .str z] ∧ z.length ≤ 100000 ∧ parseSet z = some S ∧ ∀ q, RB q → (∀ t, q.has t = S t) → P (.row q)
def upWithin : UP := fun ds P => ∃ r s, ds = [.row r, .row s] ∧ ∀ c, (c = true ↔ fitsB r s 0) → P (.bl c)
def upFits : UP := fun ds P => ∃ r s h, ds = [.row r, .row s, .int h] ∧ 0 ≤ h ∧ h ≤ 1000000 ∧ ∀ c, (c = true ↔ fitsB r s h) → P (.bl c)
def upBelow : UP := fun ds P => ∃ n, ds = [.src, .int n] ∧ 0 < n ∧ n < 1073741824 ∧ ∀ v, 0 ≤ v → v < n → P (.int v)
def upLaps : UP := fun ds P => ∃ m, ds = [.src, .int m] ∧ 1 ≤ m ∧ m ≤ 100 ∧ ∀ ls : List Int, ls ≠ [] → (ls.length : Int) ≤ m → (∀ x ∈ ls, 1 ≤ x ∧ x ≤ 60) → P (.tup (iL ls))
def upPlan : UP := fun ds P => ∃ m, ds = [.src, .int m] ∧ 1 ≤ m ∧ m ≤ 100 ∧ ∀ s fs ls, PlanOk m s fs ls → P (.tup [.int s, .tup (iL fs), .tup (iL ls)])
def upSomeTick : UP := fun ds P => ds = [.src] ∧ ∀ t, 0 ≤ t → t ≤ 1000000000000000000 → P (.int t)
section
variable {K : PySem.W.Frag} {C : Addr} {dO : Option Addr} {H F H' : Hp}
theorem retE (R : RelH ⟨K, C, dO, H, F⟩ H F) (e : Ex H H') : RelH ⟨K, C, dO, H, F⟩ H' (growF F H H') := (St1.growE R e).relH R
theorem retK (R : RelH ⟨K, C, dO, H, F⟩ H F) {d : Addr} (hd : dO = some d) (e : Kp d H H') (dd : DAt d H') : RelH ⟨K, C, dO, H, F⟩ H' (growF F H H') := (St1.grow R (fun x o n h => e x o (fun z => n (by rw [z]; exact hd.symm)) h) (fun d' h => by
  have : d' = d := by
    have h' : dO = some d' := h
    rw [hd] at h'; exact (Option.some.inj h').symm
  rw [this]; exact dd)).relH R
theorem getE (R : RelH ⟨K, C, dO, H, F⟩ H F) (e : Ex H H') {p : Addr} {xs : List V} (h : H' p = some (.tup xs)) : SqT K (growF F H H') p xs := tOf (growF_get R e.kpo (fun d h => by
  obtain ⟨ds, a, b⟩ := (R.dd d h).1
  exact ⟨ds, e _ _ a, b⟩) h fun l z => nomatch z)
theorem getK (R : RelH ⟨K, C, dO, H, F⟩ H F) {d : Addr} (hd : dO = some d) (e : Kp d H H') (dd : DAt d H') {p : Addr} {xs : List V} (h : H' p = some (.tup xs)) : SqT K (growF F H H') p xs := tOf (growF_get R (fun x o n h => e x o (fun z => n (by rw [z]; exact hd.symm)) h) (fun d' h => by
  have : d' = d := by
    have h' : dO = some d' := h
    rw [hd] at h'; exact (Option.some.inj h').symm
  rw [this]; exact dd) h fun l z => nomatch z)
theorem rowE (R : RelH ⟨K, C, dO, H, F⟩ H F) (e : Ex H H') {a : Addr} {r : RV} (h : RowAt K C H' a r) : RowAt K C (growF F H H') a r := growF_row R e.kpo (fun d h => by
  obtain ⟨ds, a, b⟩ := (R.dd d h).1
  exact ⟨ds, e _ _ a, b⟩) h
variable {vs : List V} {Q : VK} {E : XK}
theorem ad_call (h : spU K C upCall vs H Q E) : spCall K C vs H Q E := by
  obtain ⟨dO, F, ds, P, R, r, ⟨x, t, rfl, h0, h1, p⟩, k⟩ := h
  cases r with | cons a r => cases r with | cons b r => cases r; cases a with | row ra => cases b; exact ⟨_, _, _, rfl, ra.ex' R.fh, h0, h1, fun H' e => k _ H' _ _ p (retE R e) .int⟩
theorem ad_count (h : spU K C upCount vs H Q E) : spCount K C vs H Q E := by
  obtain ⟨dO, F, ds, P, R, r, ⟨x, t, rfl, p⟩, k⟩ := h
  cases r with | cons a r => cases r with | cons b r => cases r; cases a with | row ra => cases b; exact ⟨_, _, _, rfl, ra.ex' R.fh, fun H' e => k _ H' _ _ p (retE R e) .int⟩
theorem ad_holds (h : spU K C upHolds vs H Q E) : spHolds K C vs H Q E := by
  obtain ⟨dO, F, ds, P, R, r, ⟨x, t, rfl, p⟩, k⟩ := h
  cases r with | cons a r => cases r with | cons b r => cases r; cases a with | row ra => cases b; exact ⟨_, _, _, rfl, ra.ex' R.fh, k _ H _ _ p R .bl⟩
theorem ad_eq (h : spU K C upEq vs H Q E) : spEq K C vs H Q E := by
  obtain ⟨dO, F, ds, P, R, r, ⟨x, t, rfl, p⟩, k⟩ := h
  cases r with | cons a r => cases r with | cons b r => cases r; cases a with | row ra => cases b with | row rb => exact ⟨_, _, _, _, rfl, ra.ex' R.fh, rb.ex' R.fh, k _ H _ _ p R .bl⟩
theorem ad_contains (h : spU K C upContains vs H Q E) : spContains K C vs H Q E := by
  obtain ⟨dO, F, ds, P, R, r, ⟨x, t, rfl, p⟩, k⟩ := h
  cases r with | cons a r => cases r with | cons b r => cases r; cases a with | row ra =>
    rcases p with ⟨t, rfl, p⟩ | ⟨⟨y, rfl⟩ | rfl | ⟨y, rfl⟩, p⟩
    · cases b; exact ⟨_, _, _, rfl, ra.ex' R.fh, .inl ⟨_, rfl, k _ H _ _ p R .bl⟩⟩
    · cases b; exact ⟨_, _, _, rfl, ra.ex' R.fh, .inr ⟨.inl ⟨_, rfl⟩, k _ H _ _ p R .bl⟩⟩
    · cases b; exact ⟨_, _, _, rfl, ra.ex' R.fh, .inr ⟨.inr (.inl rfl), k _ H _ _ p R .bl⟩⟩
    · cases b; exact ⟨_, _, _, rfl, ra.ex' R.fh, .inr ⟨.inr (.inr ⟨_, rfl⟩), k _ H _ _ p R .bl⟩⟩
theorem ad_bool (h : spU K C upBool vs H Q E) : spBool K C vs H Q E := by
  obtain ⟨dO, F, ds, P, R, r, ⟨x, rfl, p⟩, k⟩ := h
  cases r with | cons a r => cases r; cases a with | row ra => exact ⟨_, _, rfl, ra.ex' R.fh, k _ H _ _ p R .bl⟩
theorem ad_item (h : spU K C upItem vs H Q E) : spItem K C vs H Q E := by
  obtain ⟨dO, F, ds, P, R, r, ⟨x, t, rfl, h0, h1, h2, p⟩, k⟩ := h
  cases r with | cons a r => cases r with | cons b r => cases r; cases a with | row ra => cases b; exact ⟨_, _, _, rfl, ra.ex' R.fh, h0, h1, h2, fun H' e => k _ H' _ _ p (retE R e) .int⟩
theorem ad_add (h : spU K C upAdd vs H Q E) : spAdd K C vs H Q E := by
  obtain ⟨dO, F, ds, P, R, r, ⟨x, t, rfl, h0, p⟩, k⟩ := h
  cases r with | cons a r => cases r with | cons b r => cases r; cases a with | row ra => cases b with | row rb => exact ⟨_, _, _, _, rfl, ra.ex' R.fh, rb.ex' R.fh, h0, fun H' c q e hc rq hq => k _ H' _ _ (p q rq.rb hq) (retE R e) (.row (rowE R e rq))⟩
theorem ad_and (h : spU K C upAnd vs H Q E) : spAnd K C vs H Q E := by
  obtain ⟨dO, F, ds, P, R, r, ⟨x, t, rfl, h0, p⟩, k⟩ := h
  cases r with | cons a r => cases r with | cons b r => cases r; cases a with | row ra => cases b with | row rb => exact ⟨_, _, _, _, rfl, ra.ex' R.fh, rb.ex' R.fh, h0, fun H' c q e hc rq hq => k _ H' _ _ (p q rq.rb hq) (retE R e) (.row (rowE R e rq))⟩
theorem ad_sub (h : spU K C upSub vs H Q E) : spSub K C vs H Q E := by
  obtain ⟨dO, F, ds, P, R, r, ⟨x, t, rfl, h0, p⟩, k⟩ := h
  cases r with | cons a r => cases r with | cons b r => cases r; cases a with | row ra => cases b with | row rb => exact ⟨_, _, _, _, rfl, ra.ex' R.fh, rb.ex' R.fh, h0, fun H' c q e hc rq hq => k _ H' _ _ (p q rq.rb hq) (retE R e) (.row (rowE R e rq))⟩
theorem ad_shift (h : spU K C upShift vs H Q E) : spShift K C vs H Q E := by
  obtain ⟨dO, F, ds, P, R, r, ⟨x, t, rfl, h0, h1, p⟩, k⟩ := h
  cases r with | cons a r => cases r with | cons b r => cases r; cases a with | row ra => cases b; exact ⟨_, _, _, rfl, ra.ex' R.fh, h0, h1, fun H' c q e hc rq hq => k _ H' _ _ (p q rq.rb hq) (retE R e) (.row (rowE R e rq))⟩
theorem ad_endless (h : spU K C upEndless vs H Q E) : spEndless K C vs H Q E := by
  obtain ⟨dO, F, ds, P, R, r, ⟨x, rfl, p⟩, k⟩ := h
  cases r with | cons a r => cases r; cases a with | row ra => exact ⟨_, _, rfl, ra.ex' R.fh, fun H' e => k _ H' _ _ p (retE R e) .bl⟩
theorem ad_rep (h : spU K C upRep vs H Q E) : spRep K C vs H Q E := by
  obtain ⟨dO, F, ds, P, R, r, ⟨x, rfl, p⟩, k⟩ := h
  cases r with | cons a r => cases r; cases a with | row ra => exact ⟨_, _, rfl, ra.ex' R.fh, fun H' q e hq => k _ H' _ _ p (retE R e) (.tup (getE R e hq) (.cons .int (.cons .int (.cons .int .nil))))⟩
theorem ad_rlaps (h : spU K C upRLaps vs H Q E) : spLaps K C vs H Q E := by
  obtain ⟨dO, F, ds, P, R, r, ⟨x, rfl, p⟩, k⟩ := h
  cases r with | cons a r => cases r; cases a with | row ra => exact ⟨_, _, rfl, ra.ex' R.fh, fun H' q e hq => k _ H' _ _ p (retE R e) (.tup (getE R e hq) (Reps.ofInts _))⟩
theorem ad_rflaps (h : spU K C upRFlaps vs H Q E) : spFlaps K C vs H Q E := by
  obtain ⟨dO, F, ds, P, R, r, ⟨x, rfl, p⟩, k⟩ := h
  cases r with | cons a r => cases r; cases a with | row ra => exact ⟨_, _, rfl, ra.ex' R.fh, fun H' q e hq => k _ H' _ _ p (retE R e) (.tup (getE R e hq) (Reps.ofInts _))⟩
theorem ad_text (h : spU K C upText vs H Q E) : spText K C vs H Q E := by
  obtain ⟨dO, F, ds, P, R, r, ⟨x, rfl, p⟩, k⟩ := h
  cases r with | cons a r => cases r; cases a with | row ra => exact ⟨_, _, rfl, ra.ex' R.fh, fun H' e => k _ H' _ _ p (retE R e) .str⟩
theorem ad_parse (h : spU K C upParse vs H Q E) : spParse K C vs H Q E := by
  obtain ⟨dO, F, ds, P, R, r, ⟨z, S, rfl, h0, h1, p⟩, k⟩ := h
  cases r with | cons a r => cases r with | cons b r => cases r; cases a; cases b; exact ⟨_, S, rfl, h0, h1, fun H' a q e hc rq hq => k _ H' _ _ (p q rq.rb hq) (retE R e) (.row (rowE R e rq))⟩
theorem ad_within (h : spU K C upWithin vs H Q E) : spWithin K C vs H Q E := by
  obtain ⟨dO, F, ds, P, R, r, ⟨x, t, rfl, p⟩, k⟩ := h
  cases r with | cons a r => cases r with | cons b r => cases r; cases a with | row ra => cases b with | row rb => exact ⟨_, _, _, _, rfl, ra.ex' R.fh, rb.ex' R.fh, fun H' c e hc => k _ H' _ _ (p c hc) (retE R e) .bl⟩
theorem ad_fits (h : spU K C upFits vs H Q E) : spFits K C vs H Q E := by
  obtain ⟨dO, F, ds, P, R, r, ⟨x, t, n, rfl, h0, h1, p⟩, k⟩ := h
  cases r with | cons a r => cases r with | cons b r => cases r with | cons b' r => cases r; cases b'; cases a with | row ra => cases b with | row rb => exact ⟨_, _, _, _, _, rfl, ra.ex' R.fh, rb.ex' R.fh, h0, h1, fun H' c e hc => k _ H' _ _ (p c hc) (retE R e) .bl⟩
theorem ad_below (h : spU K C upBelow vs H Q E) : spBelow vs H Q E := by
  obtain ⟨dO, F, ds, P, R, r, ⟨n, rfl, h0, h1, p⟩, k⟩ := h
  cases r with | cons a r => cases r with | cons b r => cases r; cases a with | src hd => cases b; exact ⟨_, _, rfl, (R.dd _ hd).1, h0, h1, fun H' v e dd v0 v1 => k _ H' _ _ (p v v0 v1) (retK R hd e dd) .int⟩
theorem ad_laps (h : spU K C upLaps vs H Q E) : spLawLaps vs H Q E := by
  obtain ⟨dO, F, ds, P, R, r, ⟨n, rfl, h0, h1, p⟩, k⟩ := h
  cases r with | cons a r => cases r with | cons b r => cases r; cases a with | src hd => cases b; exact ⟨_, _, rfl, (R.dd _ hd).1, h0, h1, fun H' q ls e dd hq a1 a2 a3 => k _ H' _ _ (p ls a1 a2 a3) (retK R hd e dd) (.tup (getK R hd e dd hq) (Reps.ofInts _))⟩
theorem ad_plan (h : spU K C upPlan vs H Q E) : spPlan vs H Q E := by
  obtain ⟨dO, F, ds, P, R, r, ⟨n, rfl, h0, h1, p⟩, k⟩ := h
  cases r with | cons a r => cases r with | cons b r => cases r; cases a with | src hd => cases b; exact ⟨_, _, rfl, (R.dd _ hd).1, h0, h1, fun H' q s pf fs pl ls e dd hq hf hl ok => k _ H' _ _ (p s fs ls ok) (retK R hd e dd) (.tup (getK R hd e dd hq) (.cons .int (.cons (.tup (getK R hd e dd hf) (Reps.ofInts _)) (.cons (.tup (getK R hd e dd hl) (Reps.ofInts _)) .nil))))⟩
theorem ad_some (h : spU K C upSomeTick vs H Q E) : spSomeTick vs H Q E := by
  obtain ⟨dO, F, ds, P, R, r, ⟨rfl, p⟩, k⟩ := h
  cases r with | cons a r => cases r; cases a with | src hd => exact ⟨_, rfl, (R.dd _ hd).1, fun H' t e dd t0 t1 => k _ H' _ _ (p t t0 t1) (retK R hd e dd) .int⟩
end
theorem law_rest {K : PySem.W.Frag} {C : Addr} {ts : TS} {us : US} {N : List Str} {n : Nat} {vs : List V} {H : Hp} {Q : VK} {E : XK} (S : ∀ B : Bs, B.K = K → B.C = C → SimS B ts us) (salt : Int) (hs : 0 ≤ salt ∧ salt < 1000)
    (hr : us { nx := fun _ => False, rt := fun d => d = .bl true } (.no :: .val .src :: List.replicate n .no)) (h : spLaw K vs H Q E) (hN : N.length = n + 2) :
    tSeq (tAsg (tDef (spRandom K) E0 (tCons (tVar 0) (tCons (tC (.int salt)) tNil))) (gName 1)) ts { nx := fun _ H' => Q .non H', rt := Q } (L2.start N vs) H := by
  obtain ⟨p, ns, rfl, s, hz, h⟩ := h
  have e0 : L2.start N [V.ref p] = some (.ref p) :: none :: List.replicate n none := by
    unfold L2.start
    have : N.length - [V.ref p].length = n + 1 := by rw [hN]; rfl
    rw [this]; rfl
  rw [e0]
  refine x_seq (x_asg (x_def (x_cons (x_var (v := .ref p) rfl (x_cons (x_c (x_nil ?_)))))))
  refine ⟨p, ns, salt, rfl, s, hz, hs.1, hs.2, fun H1 d e1 hd D => ?_⟩
  refine x_name ?_
  show ts _ (some (.ref p) :: some (.ref d) :: List.replicate n none) H1
  have hF : ∀ x o, H1 x = some o → (fun y => if y = d then none else H1 y) x = none → ∃ l, o = .lst l := fun x o h1 h2 => by
    dsimp only at h2
    by_cases c : x = d
    · obtain ⟨ds, e, _⟩ := D
      rw [c, e] at h1; exact ⟨_, (Option.some.inj h1).symm⟩
    · rw [if_neg c] at h2; rw [h2] at h1; cases h1
  have hx : Ex (fun y => if y = d then none else H1 y) H1 := fun x o h => by
    dsimp only at h
    by_cases c : x = d
    · rw [if_pos c] at h; cases h
    · rw [if_neg c] at h; exact h
  have R : RelH ⟨K, C, some d, H1, fun y => if y = d then none else H1 y⟩ H1 (fun y => if y = d then none else H1 y) := ⟨hx, Ex.refl _, fun _ _ h => h, hF, Kpo.refl, fun d' e => by
    have e' : some d = some d' := e
    cases e'; exact D.some, fun d' e => by
    have e' : some d = some d' := e
    cases e'; exact ⟨D, if_pos rfl⟩⟩
  have key : ∀ (m i : Nat) (s : Sl), (List.replicate m Sl.no)[i]? = some s → s = .no := fun m i s h => by
    rw [List.getElem?_replicate] at h
    split at h
    · exact (Option.some.inj h).symm
    · cases h
  refine S ⟨K, C, some d, H1, fun y => if y = d then none else H1 y⟩ rfl rfl H1 _ _ _ _ _ ⟨R, by simp, fun i x e => ?_, fun i l e => ?_, fun i j l m p e => ?_⟩ hr ⟨fun _ _ _ _ _ _ h => h.elim, fun H' F' v d' e R' rp z => ?_, fun _ _ _ _ _ _ h => h.elim, fun _ _ _ _ _ _ h => h.elim⟩
  · match i, e with
    | 0, e => cases e
    | 1, e => cases e; exact ⟨_, rfl, .src rfl⟩
    | i + 2, e => have := key n i _ e; cases this
  · match i, e with
    | 0, e => cases e
    | 1, e => cases e
    | i + 2, e => have := key n i _ e; cases this
  · match i, e with
    | 0, e => cases e
    | 1, e => cases e
    | i + 2, e => have := key n i _ e; cases this
  · subst z
    cases rp
    exact h H'
end TkL


namespace TkL
open PySem PySem.Spec PySem.Calls PyProof.Rows L2 Tk
section
variable {P : Program} {w : World} {K : PySem.W.Frag} {mg : Str → Option Value} {base : Heap} {CX : CXT} {k : Nat} {C : Addr} {m : Str} {sp sp' : Sp}
theorem PropN.imp (F : PropN P w K mg base CX k C m sp) (h : ∀ vs H Q E, sp' vs H Q E → sp vs H Q E) : PropN P w K mg base CX k C m sp' := by
  obtain ⟨p, g, fd, hp, d, b⟩ := F.ex
  exact ⟨p, g, fd, hp, d.imp h, b⟩
theorem CmN.imp (F : CmN P w K mg base CX k C m sp) (h : ∀ vs H Q E, sp' vs H Q E → sp vs H Q E) : CmN P w K mg base CX k C m sp' := by
  obtain ⟨mc, p, g, r, c, d⟩ := F.ex
  exact ⟨mc, p, g, r, c, d.imp h⟩
end
theorem pt_ifB {X : Cx} {c a b : Expr} {pos : Pos} {tA : TT} {ta tb : TE} (hc : PT X c tA) (ha : PT X a (tB ta)) (hb : PT X b (tB tb)) : PT X (.IfExp c a b pos) (tB (tIf tA ta tb)) := by
  refine ⟨fun pins s σ H Q I h => ?_⟩
  rw [show isTrue (.IfExp c a b pos) X.env (eval (.IfExp c a b pos) X.env) = (do
    if ← isTrue c X.env (eval c X.env) then isTrue a X.env (eval a X.env) else isTrue b X.env (eval b X.env)) from rfl]
  refine wpAny_bind (thn (hc.run pins s σ H _ I h) fun d s1 ⟨H1, I1, q1⟩ => ?_)
  cases d with
  | true => exact ha.run pins s1 σ H1 Q I1 q1
  | false => exact hb.run pins s1 σ H1 Q I1 q1
end TkL


namespace TkL
open PySem PySem.Spec PySem.Calls PyProof.Rows L2 Tk
mutual
def pd : D → Option PyData
  | .int i => some (.int i) | .bl b => some (.bool b) | .str s => some (.str s) | .non => some .none
  | .lst l => match pds l with | some x => some (.list x) | none => none
  | .tup l => match pds l with | some x => some (.tuple x) | none => none
  | _ => none
def pds : List D → Option (List PyData)
  | [] => some []
  | d :: ds => match pd d, pds ds with | some x, some xs => some (x :: xs) | _, _ => none
end
def qEqD : U2 := fun x y P => ∃ d e, pd x = some d ∧ pd y = some e ∧ SeqAt.shaped d = true ∧ SeqAt.shaped e = true ∧ P (.bl (PyData.eqv d e))
def qNeD : U2 := fun x y P => ∃ d e, pd x = some d ∧ pd y = some e ∧ SeqAt.shaped d = true ∧ SeqAt.shaped e = true ∧ P (.bl (!PyData.eqv d e))
section
variable {K : PySem.W.Frag} {C : Addr} {dO : Option Addr} {F H : Hp}
mutual
theorem Rep.dp (e : Ex F H) : ∀ {v : V} {d : D} {x : PyData}, Rep K C dO F v d → pd d = some x → Dp K H v x
  | _, _, _, .int, h => by cases h; exact .int _
  | _, _, _, .bl, h => by cases h; exact .bl _
  | _, _, _, .str, h => by cases h; exact .str _
  | _, _, _, .non, h => by cases h; exact .non
  | _, _, _, .cls, h => by cases h
  | _, _, _, .src _, h => by cases h
  | _, _, _, .row _, h => by cases h
  | _, _, _, .mrk _, h => by cases h
  | _, _, _, .tup (ds := ds) a r, h => by
    unfold pd at h
    cases e1 : pds ds with
    | none => rw [e1] at h; cases h
    | some xs => rw [e1] at h; cases h; exact .tup (e.sqT a) (Reps.dp e r e1)
  | _, _, _, .lst (ds := ds) a r, h => by
    unfold pd at h
    cases e1 : pds ds with
    | none => rw [e1] at h; cases h
    | some xs => rw [e1] at h; cases h; exact .lst (lOf (e _ _ a)) (Reps.dp e r e1)
theorem Reps.dp (e : Ex F H) : ∀ {vs : List V} {ds : List D} {xs : List PyData}, Reps K C dO F vs ds → pds ds = some xs → DpAll K H vs xs
  | _, _, _, .nil, h => by cases h; exact .nil
  | _, _, _, .cons (d := d) (ds := ds) a r, h => by
    unfold pds at h
    cases e1 : pd d with
    | none => rw [e1] at h; cases h
    | some x =>
      cases e2 : pds ds with
      | none => rw [e1, e2] at h; cases h
      | some xs => rw [e1, e2] at h; cases h; exact .cons (Rep.dp e a e1) (Reps.dp e r e2)
end
end
section
variable {B : Bs} {t ta tb tc te td : TE} {u ua ub uc ue ud : UE} {tt tt' : TT} {ut ut' : UT} {A : TA} {U : UA}
theorem RepW.dp {H F : Hp} {v : V} {d : D} {x : PyData} (R : RelH B H F) (r : RepW B F H v d) (e : pd d = some x) : Dp B.K H v x := by
  cases d with
  | lst l =>
    obtain ⟨p, vs, rfl, _, a, b⟩ := r
    unfold pd at e
    cases e1 : pds l with
    | none => rw [e1] at e; cases e
    | some xs => rw [e1] at e; cases e; exact .lst (lOf a) (Reps.dp R.fh b e1)
  | _ => exact Rep.dp R.fh r e
theorem s2_EqD : Sim2 B (rEqD B.K) qEqD := fun H F x y dx dy Q P R rx ry hq k => by
  obtain ⟨d, e, h1, h2, h3, h4, p⟩ := hq
  exact ⟨d, e, rx.dp R h1, ry.dp R h2, h3, h4, k H F _ _ .refl .bl p⟩
theorem s2_NeD : Sim2 B (rNeD B.K) qNeD := fun H F x y dx dy Q P R rx ry hq k => by
  obtain ⟨d, e, h1, h2, h3, h4, p⟩ := hq
  exact ⟨d, e, rx.dp R h1, ry.dp R h2, h3, h4, k H F _ _ .refl .bl p⟩
def qRepT : U2 := fun x y P => match x, y with | .tup l, .int k => (l ≠ [] ∧ 2 ≤ k ∧ k ≤ 1000 ∧ l.length ≤ 1000) ∧ P (.tup (List.replicate k.toNat l).flatten) | _, _ => False
theorem s2_RepT : Sim2 B (rRepT B.K) qRepT := fun H F x y dx dy Q P R rx ry hq k => by
  unfold qRepT at hq
  split at hq
  · obtain ⟨p, vs, rfl, a, b, _⟩ := rx.tup R
    cases ry
    refine ⟨p, _, vs, rfl, rfl, a, fun z => ?_, hq.1.2.1, hq.1.2.2.1, by rw [b.len]; exact hq.1.2.2.2, fun n hn => ?_⟩
    · subst z; cases b; exact hq.1.1 rfl
    · obtain ⟨s, r⟩ := new_tup R hn (b.rep _)
      exact k _ _ _ _ s r hq.2
  · exact hq.elim
def qNeg : D → (D → Prop) → Prop := fun x P => match x with | .int i => P (.int (-i)) | _ => False
theorem s1_neg : ∀ H F x dx (Q : VK) (P : D → Prop), RelH B H F → RepW B F H x dx → qNeg dx P → (∀ H' F' v d, St1 B H F H' F' → Rep B.K B.C B.dO F' v d → P d → Q v H') → rU (fun i => V.int (-i)) x H Q := fun H F x dx Q P R r h k => by
  unfold qNeg at h
  split at h
  · cases r; exact ⟨_, rfl, k H F _ _ .refl .int h⟩
  · exact h.elim
def gSumT : UP := fun ds P => match ds with | [.tup l] => ∃ ns : List Int, l = iL ns ∧ P (.int ns.sum) | _ => False
theorem sk_sumT : SimK B (rSumT B.K) gSumT := fun H F vs ds Q P R r h k => by
  unfold gSumT at h
  split at h
  · obtain ⟨v, rfl, a⟩ := r.one
    obtain ⟨ns, rfl, h⟩ := h
    obtain ⟨p, ws, rfl, b, c, _⟩ := a.tup R
    have e := c.ints
    subst e
    exact ⟨p, ns, rfl, b, k H F _ _ .refl .int h⟩
  · exact h.elim
theorem sk_boolO {up : UP} : SimK B (kBoolO B.C (spU B.K B.C up) E0) (gBoolO up) := fun H F vs ds Q P R r h k => by
  unfold gBoolO at h
  split at h
  · obtain ⟨v, rfl, a⟩ := r.one
    obtain ⟨b, rfl, ra⟩ := a.row R
    obtain ⟨dx, fs, ob⟩ := ra.ob
    refine ⟨_, rfl, b, dx, fs, rfl, R.fh _ _ ob, spU_call R (.cons (.row ra) .nil) h fun H' F' v d s rp p => ?_⟩
    split at p
    · cases rp; exact ⟨_, rfl, k H' F' _ _ s .bl p⟩
    · exact p.elim
  · exact h.elim
def uNotO (up : UP) (a : UE) : UE := fun ρ P => a ρ fun x ρ1 => match x with | .row r => up [.row r] (fun d => match d with | .bl c => P (.bl (!c)) ρ1 | _ => False) | _ => False
theorem sE_notO {up : UP} (ha : SimW B ta ua) : SimE B (tNotO B.C (spU B.K B.C up) E0 ta) (uNotO up ua) := fun H F σ ρ Q P R hu k =>
  ha H F σ ρ _ _ R hu fun H1 F1 v d ρ1 e1 k1 R1 r1 p1 => by
    split at p1
    · obtain ⟨a, rfl, ra⟩ := r1.row R1.toRelH
      obtain ⟨dx, fs, ob⟩ := ra.ob
      refine ⟨a, dx, fs, rfl, R1.fh _ _ ob, spU_call R1.toRelH (.cons (.row ra) .nil) p1 fun H' F' v d s rp p => ?_⟩
      split at p
      · cases rp
        exact ⟨_, rfl, k H' F' _ _ ρ1 (e1.trans s.ex) (k1.trans (s.kq R1)) (s.rel _ _ R1) .bl p⟩
      · exact p.elim
    · exact p1.elim
def uGUnl (n : Nat) (b : UGs) : UG := fun d ρ P => match d with | .lst ds => ds.length = n ∧ b ds ρ P | _ => False
theorem sG_unl {n : Nat} {gs : TGs} {b : UGs} (h : SimGs B gs b) : SimG B (gUnl B.K n gs) (uGUnl n b) := fun H F σ ρ v d Q P R r hu k => by
  unfold uGUnl at hu
  split at hu
  · cases r with
    | lst h1 h2 => exact ⟨_, _, rfl, lOf (R.fh _ _ h1), by rw [h2.len]; exact hu.1, h H F σ ρ _ _ _ _ R h2 hu.2 k⟩
  · exact hu.elim
def rngCD (lo c : Int) (n : Nat) : List D := (List.range n).map fun (k : Nat) => D.int (lo + (k : Int) * c)
theorem rngCD_length {lo c : Int} {n : Nat} : (rngCD lo c n).length = n := by unfold rngCD; simp
theorem rngCD_get {lo c : Int} {n i : Nat} (h : i < n) : (rngCD lo c n)[i]? = some (D.int (lo + (i : Int) * c)) := by
  unfold rngCD; simp [List.getElem?_range h]
def uIRng3 (a : UA) : UI := fun ρ P => a ρ fun ds ρ1 => ∃ (i j c : Int) (n : Nat), ds = [.int i, .int j, .int c] ∧ RgC i j c n ∧ P (rngCD i c n) ρ1
theorem Reps.rngC {K : PySem.W.Frag} {C : Addr} {dO : Option Addr} {F : Hp} (lo c : Int) (n : Nat) : Reps K C dO F (TkL.rngC lo c n) (rngCD lo c n) := by
  unfold TkL.rngC rngCD
  induction List.range n with
  | nil => exact .nil
  | cons a l ih => exact .cons .int ih
theorem sI_rng3 (hA : SimA B A U) : SimI B (iRng3 A) (uIRng3 U) := fun H F σ ρ Rr P R hu k =>
  hA H F σ ρ _ _ R hu fun H1 F1 vs ds ρ1 e1 k1 R1 r1 p1 => by
    obtain ⟨i, j, c, n, rfl, h, p1⟩ := p1
    cases r1 with | cons a r1 => cases r1 with | cons b r1 => cases r1 with | cons d r1 =>
      cases r1; cases a; cases b; cases d
      exact ⟨_, _, _, n, rfl, h, k H1 F1 _ _ ρ1 e1 k1 R1 (Wu.of Wk.rngc (Reps.rngC _ _ _)) p1⟩
def uPar_vo (i j : Nat) (a : UE) : US := fun P ρ => a ρ fun d ρ1 => P.nx ((ρ1.set i (.val d)).set j (.own []))
theorem sS_par_vo {i j : Nat} (ha : SimE B ta ua) : SimS B (tPar i j (tCons ta (tCons (tLst tNil) tNil))) (uPar_vo i j ua) := fun H F σ ρ D1 P R hu k =>
  ha H F σ ρ _ _ R hu fun H1 F1 v d ρ1 e1 k1 R1 r1 p1 => by
    refine ⟨Nat.zero_le _, fun p hp => ?_⟩
    obtain ⟨s, hF⟩ := new_own (vs := []) R1.toRelH hp
    have R2 := s.rel _ _ R1
    refine ⟨_, _, rfl, k.nx _ F1 _ _ e1 ((R2.setV r1).setG (fun d z => by cases z) fun l' z => ?_) p1⟩
    cases z
    refine ⟨p, [], rfl, R1.toRelH.n0 hp, hF, upd_same, .nil, fun n m _ e => ?_⟩
    obtain ⟨a1, n1⟩ := setV_ne n m e
    rw [List.getElem?_set, if_neg n1]
    exact R1.fresh R1 hp (fun _ _ h => h) n m a1
def uPar_ov (i j : Nat) (a : UE) : US := fun P ρ => a ρ fun d ρ1 => P.nx ((ρ1.set i (.own [])).set j (.val d))
end
section
variable {P : UEnds} {ρ : Env} {a b c : UE} {q q' : U2} {s t : US} {k : UT} {g : UG} {A : UA} {up g' : UP} {i j l : Nat} {d e : D} {ds : List D} {Q : D → Env → Prop} {QA : List D → Env → Prop} {QT : Bool → Env → Prop}
theorem e_seq : uSeq s t P ρ = s { P with nx := t P } ρ := rfl
theorem e_next : uNext P ρ = P.nx ρ := rfl
theorem e_break : uBreak P ρ = P.bk ρ := rfl
theorem e_cont : uCont P ρ = P.ct ρ := rfl
theorem e_asg : uAsg a g P ρ = a ρ fun d ρ1 => g d ρ1 P.nx := rfl
theorem e_name {Qe : Env → Prop} : uName i d ρ Qe = Qe (ρ.set i (.val d)) := rfl
theorem e_asgO : uAsgO a i P ρ = a ρ fun d ρ1 => match d with | .lst l => P.nx (ρ1.set i (.own l)) | _ => False := rfl
theorem e_par : uPar i j A P ρ = A ρ fun ds ρ1 => match ds with | [x, y] => P.nx ((ρ1.set i (.val x)).set j (.val y)) | _ => False := rfl
theorem e_par3 : uPar3 i j l A P ρ = A ρ fun ds ρ1 => match ds with | [x, y, z] => P.nx (((ρ1.set i (.val x)).set j (.val y)).set l (.val z)) | _ => False := rfl
theorem e_par_vo : uPar_vo i j a P ρ = a ρ fun d ρ1 => P.nx ((ρ1.set i (.val d)).set j (.own [])) := rfl
theorem e_drop : uDrop a P ρ = a ρ fun _ ρ1 => P.nx ρ1 := rfl
theorem e_ret : uRet a P ρ = a ρ fun d _ => P.rt d := rfl
theorem e_retN : uRetN P ρ = P.rt .non := rfl
theorem e_ifS : uIfS k s t P ρ = k ρ fun k ρ1 => if k = true then s P ρ1 else t P ρ1 := rfl
theorem e_c : uC d ρ Q = Q d ρ := rfl
theorem e_var : uVar i ρ Q = match ρ[i]? with | some (.val d) => Q d ρ | some (.own l) => Q (.lst l) ρ | _ => False := rfl
theorem e_per : uPer i ρ Q = match ρ[i]? with | some (.val d) => Q d ρ | some (.own l) => Q (.lst l) (ρ.set i (.val (.lst l))) | _ => False := rfl
theorem e_op : uOp q a b ρ Q = a ρ fun x ρ1 => b ρ1 fun y ρ2 => q x y fun z => Q z ρ2 := rfl
theorem e_un {q : D → (D → Prop) → Prop} : uUn q a ρ Q = a ρ fun x ρ1 => q x fun z => Q z ρ1 := rfl
theorem e_nil : uNil ρ QA = QA [] ρ := rfl
theorem e_cons : uCons a A ρ QA = a ρ fun x ρ1 => A ρ1 fun xs ρ2 => QA (x :: xs) ρ2 := rfl
theorem e_cb : uCB g' A ρ Q = A ρ fun xs ρ1 => g' xs fun z => Q z ρ1 := rfl
theorem e_if : uIf k a b ρ Q = k ρ fun k ρ1 => if k = true then a ρ1 Q else b ρ1 Q := rfl
theorem e_andV : uAndV a b ρ Q = a ρ fun x ρ1 => ∃ c, x = .bl c ∧ if c = true then b ρ1 Q else Q (.bl false) ρ1 := rfl
theorem e_orV : uOrV a b ρ Q = a ρ fun x ρ1 => ∃ c, x = .bl c ∧ if c = true then Q (.bl true) ρ1 else b ρ1 Q := rfl
theorem e_notV : uNotV a ρ Q = a ρ fun x ρ1 => ∃ c, x = .bl c ∧ Q (.bl (!c)) ρ1 := rfl
theorem e_B : uB a ρ QT = a ρ fun x ρ1 => ∃ c, x = .bl c ∧ QT c ρ1 := rfl
theorem e_and {k' : UT} : uAnd k k' ρ QT = k ρ fun c ρ1 => if c = true then k' ρ1 QT else QT false ρ1 := rfl
theorem e_or {k' : UT} : uOr k k' ρ QT = k ρ fun c ρ1 => if c = true then QT true ρ1 else k' ρ1 QT := rfl
theorem e_not : uNot k ρ QT = k ρ fun c ρ1 => QT (!c) ρ1 := rfl
theorem e_yes : uYes ρ QT = QT true ρ := rfl
theorem e_chain : uChain q q' a b c ρ Q = a ρ fun x ρ1 => b ρ1 fun y ρ2 => q x y fun z => ∃ k, z = .bl k ∧ if k = true then c ρ2 fun w ρ3 => q' y w fun z => Q z ρ3 else Q (.bl false) ρ2 := rfl
theorem e_tup : uTup A ρ Q = A ρ fun xs ρ1 => xs.length ≤ 1000000 ∧ Q (.tup xs) ρ1 := rfl
theorem e_lst : uLst A ρ Q = A ρ fun xs ρ1 => xs.length ≤ 1000000 ∧ Q (.lst xs) ρ1 := rfl
theorem e_def : uDef up A ρ Q = A ρ fun xs ρ1 => up xs fun z => Q z ρ1 := rfl
theorem e_row : uRow up a A ρ Q = a ρ fun y ρ1 => (∃ r, y = .row r) ∧ A ρ1 fun xs ρ2 => up (y :: xs) fun z => Q z ρ2 := rfl
theorem e_prp : uPrp up a ρ Q = a ρ fun y ρ1 => (∃ r, y = .row r) ∧ up [y] fun z => Q z ρ1 := rfl
theorem e_cm : uCM up a A ρ Q = a ρ fun y ρ1 => y = .cls ∧ A ρ1 fun xs ρ2 => up (.cls :: xs) fun z => Q z ρ2 := rfl
theorem e_tru : uTru a ρ QT = a ρ fun x ρ1 => match truD x with | some k => QT k ρ1 | none => False := rfl
theorem e_notT : uNotT a ρ Q = a ρ fun x ρ1 => match truD x with | some k => Q (.bl (!k)) ρ1 | none => False := rfl
theorem e_truO : uTruO up a ρ QT = a ρ fun x ρ1 => match x with | .row r => up [.row r] (fun d => match d with | .bl c => QT c ρ1 | _ => False) | _ => False := rfl
theorem e_notO : uNotO up a ρ Q = a ρ fun x ρ1 => match x with | .row r => up [.row r] (fun d => match d with | .bl c => Q (.bl (!c)) ρ1 | _ => False) | _ => False := rfl
theorem e_mrk {neg : Bool} : uMrk neg a b ρ Q = a ρ fun x ρ1 => b ρ1 fun y ρ2 => qMrk neg x y fun z => Q z ρ2 := rfl
theorem e_part {QO : Option Int → Env → Prop} : uPart a ρ QO = a ρ fun x ρ1 => match x with | .int i => QO (some i) ρ1 | _ => False := rfl
theorem e_noPart {QO : Option Int → Env → Prop} : uNoPart ρ QO = QO none ρ := rfl
theorem e_slL {u v : UO} : uSlL a u v ρ Q = a ρ fun x ρ1 => u ρ1 fun lo ρ2 => v ρ2 fun hi ρ3 => match x with | .lst xs => Q (.lst (cutD xs lo hi)) ρ3 | _ => False := rfl
theorem e_slT {u v : UO} : uSlT a u v ρ Q = a ρ fun x ρ1 => u ρ1 fun lo ρ2 => v ρ2 fun hi ρ3 => match x with | .tup xs => Q (.tup (cutD xs lo hi)) ρ3 | _ => False := rfl
theorem e_bms {gs : Str → UP} : uBMS gs a A ρ Q = a ρ fun x ρ1 => match x with | .str z => A ρ1 fun xs ρ2 => gs z xs fun d => Q d ρ2 | _ => False := rfl
theorem e_gtup {n : Nat} {gs : UGs} {Qe : Env → Prop} : uGTup n gs d ρ Qe = match d with | .tup ds => ds.length = n ∧ gs ds ρ Qe | _ => False := rfl
theorem e_gunl {n : Nat} {gs : UGs} {Qe : Env → Prop} : uGUnl n gs d ρ Qe = match d with | .lst ds => ds.length = n ∧ gs ds ρ Qe | _ => False := rfl
theorem e_gnil {Qe : Env → Prop} : uGNil ([] : List D) ρ Qe ↔ Qe ρ := ⟨fun h => h.2, fun h => ⟨rfl, h⟩⟩
theorem e_gcons {gs : UGs} {Qe : Env → Prop} : uGCons g gs (d :: ds) ρ Qe ↔ g d ρ fun ρ1 => gs ds ρ1 Qe := ⟨fun ⟨x, r, e, h⟩ => by cases e; exact h, fun h => ⟨_, _, rfl, h⟩⟩
theorem e_app : uApp i a P ρ = ((∃ l0, ρ[i]? = some (.own l0)) ∧ a ρ fun d ρ1 => ∃ l, ρ1[i]? = some (.own l) ∧ l.length < 1000000 ∧ P.nx (ρ1.set i (.own (l ++ [d])))) := rfl
theorem e_irng1 {Qi : List D → Env → Prop} : uIRng1 A ρ Qi = A ρ fun ds ρ1 => match ds with | [.int j] => (-(2 ^ 62) ≤ j ∧ j < 2 ^ 62) ∧ Qi (rngD 0 j.toNat) ρ1 | _ => False := rfl
theorem e_irng2 {Qi : List D → Env → Prop} : uIRng2 A ρ Qi = A ρ fun ds ρ1 => match ds with | [.int i, .int j] => (-(2 ^ 62) ≤ i ∧ i < 2 ^ 62 ∧ -(2 ^ 62) ≤ j ∧ j < 2 ^ 62) ∧ Qi (rngD i (j - i).toNat) ρ1 | _ => False := rfl
theorem e_il {Qi : List D → Env → Prop} : uIL a ρ Qi = a ρ fun d ρ1 => match d with | .lst l => Qi l ρ1 | _ => False := rfl
theorem e_it {Qi : List D → Env → Prop} : uIT a ρ Qi = a ρ fun d ρ1 => match d with | .tup l => Qi l ρ1 | _ => False := rfl
theorem e_qI {C : Int → Int → Prop} {h : Int → Int → D} {m n : Int} {P : D → Prop} : qI C h (.int m) (.int n) P = (C m n ∧ P (h m n)) := rfl
theorem e_qI0 {h : Int → Int → D} {m n : Int} {P : D → Prop} : qI0 h (.int m) (.int n) P = P (h m n) := rfl
theorem e_exB {P : Bool → Prop} {k : Bool} : (∃ c, D.bl k = .bl c ∧ P c) ↔ P k := ⟨fun ⟨c, e, h⟩ => by cases e; exact h, fun h => ⟨k, rfl, h⟩⟩
theorem e_exR {r : RV} : (∃ s, D.row r = .row s) ↔ True := ⟨fun _ => trivial, fun _ => ⟨r, rfl⟩⟩
theorem e_qUpR {r s : RV} {P : D → Prop} : qUpR up (.row r) (.row s) P = up [.row r, .row s] P := rfl
theorem e_qUpI {r : RV} {n : Int} {P : D → Prop} : qUpI up (.row r) (.int n) P = up [.row r, .int n] P := rfl
theorem e_qUpN {r s : RV} {P : D → Prop} : qUpN up (.row r) (.row s) P = up [.row r, .row s] (fun d => match d with | .bl c => P (.bl (!c)) | _ => False) := rfl
theorem e_qEqI {m n : Int} {P : D → Prop} : qEq (.int m) (.int n) P ↔ P (.bl (decide (m = n))) := by
  unfold qEq; simp [toV, scal]
theorem e_qNeI {m n : Int} {P : D → Prop} : qNe (.int m) (.int n) P ↔ P (.bl (!decide (m = n))) := by
  unfold qNe; simp [toV, scal]
theorem e_qEqB {m n : Bool} {P : D → Prop} : qEq (.bl m) (.bl n) P ↔ P (.bl (decide (m = n))) := by
  unfold qEq; simp [toV, scal]
theorem e_qNeB {m n : Bool} {P : D → Prop} : qNe (.bl m) (.bl n) P ↔ P (.bl (!decide (m = n))) := by
  unfold qNe; simp [toV, scal]
theorem e_qEqS {m n : Str} {P : D → Prop} : qEq (.str m) (.str n) P ↔ P (.bl (decide (m = n))) := by
  unfold qEq; simp [toV, scal]
theorem e_qNeS {m n : Str} {P : D → Prop} : qNe (.str m) (.str n) P ↔ P (.bl (!decide (m = n))) := by
  unfold qNe; simp [toV, scal]
theorem e_qCat {x y : List D} {P : D → Prop} : qCat (.lst x) (.lst y) P = (x.length + y.length ≤ 1000000 ∧ P (.lst (x ++ y))) := rfl
theorem e_qCatA {x y : List D} {P : D → Prop} : qCatA (.tup x) (.tup y) P = (x.length + y.length ≤ 1000000 ∧ P (.tup (x ++ y))) := rfl
theorem e_qIxL {x : List D} {n : Int} {P : D → Prop} : qIxL (.lst x) (.int n) P = ∃ d, atI x n = some d ∧ P d := rfl
theorem e_qIxT {x : List D} {n : Int} {P : D → Prop} : qIxT (.tup x) (.int n) P = ∃ d, atI x n = some d ∧ P d := rfl
theorem e_len {x : List D} {P : D → Prop} : gLen [.lst x] P = P (.int x.length) := rfl
theorem e_lenT {x : List D} {P : D → Prop} : gLen [.tup x] P = P (.int x.length) := rfl
theorem e_int {n : Int} {P : D → Prop} : gInt [.int n] P = P (.int n) := rfl
theorem e_intB {n : Bool} {P : D → Prop} : gInt [.bl n] P = P (.int (if n then 1 else 0)) := rfl
theorem e_tuple {x : List D} {P : D → Prop} : gTuple [.lst x] P = (x.length ≤ 1000000 ∧ P (.tup x)) := rfl
theorem e_list {x : List D} {P : D → Prop} : gList [.tup x] P = (x.length ≤ 1000000 ∧ P (.lst x)) := rfl
theorem e_listL {x : List D} {P : D → Prop} : gList [.lst x] P = (x.length ≤ 1000000 ∧ P (.lst x)) := rfl
theorem e_sum {x : List Int} {P : D → Prop} : gSum [.lst (iL x)] P ↔ P (.int x.sum) := ⟨fun ⟨y, e, h⟩ => by
  have : x = y := by
    have inj : Function.Injective D.int := fun a b h => by cases h; rfl
    exact (List.map_inj_right (fun a b h => inj h)).mp e
  rw [this]; exact h, fun h => ⟨x, rfl, h⟩⟩
theorem iL_inj {x y : List Int} (e : iL x = iL y) : x = y := (List.map_inj_right (fun a b h => by cases h; rfl)).mp e
theorem e_sumT {x : List Int} {P : D → Prop} : gSumT [.tup (iL x)] P ↔ P (.int x.sum) := ⟨fun ⟨y, e, h⟩ => by rw [iL_inj e]; exact h, fun h => ⟨x, rfl, h⟩⟩
theorem e_max2 {m n : Int} {P : D → Prop} : gMax2 [.int m, .int n] P = P (.int (if n > m then n else m)) := rfl
theorem e_min2 {m n : Int} {P : D → Prop} : gMin2 [.int m, .int n] P = P (.int (if n < m then n else m)) := rfl
theorem e_qMrk {t : Int} {ks : List Int} {P : D → Prop} : qMrk false (.int t) (.mrk ks) P = P (.bl (decide (t ∈ ks))) := rfl
theorem e_qMrkN {t : Int} {ks : List Int} {P : D → Prop} : qMrk true (.int t) (.mrk ks) P = P (.bl (!decide (t ∈ ks))) := rfl
theorem toVs_iL : ∀ l : List Int, toVs (iL l) = some (zI l)
  | [] => rfl
  | a :: l => by
    show (match toV (.int a), toVs (iL l) with | some v, some vs => some (v :: vs) | _, _ => none) = _
    rw [toVs_iL l]; rfl
theorem e_qInT {t : Int} {ks : List Int} {P : D → Prop} : qIn false (.int t) (.tup (iL ks)) P ↔ P (.bl (decide (t ∈ ks))) := by
  constructor
  · rintro ⟨v, l, vs, e1, e2, e3, h⟩
    rcases e2 with e2 | e2
    · cases e2
    · cases e1; cases e2
      rw [toVs_iL] at e3; cases e3
      rw [if_neg Bool.false_ne_true, inV_zI] at h; exact h
  · intro h
    exact ⟨.int t, iL ks, zI ks, rfl, .inr rfl, toVs_iL ks, by rw [if_neg Bool.false_ne_true, inV_zI]; exact h⟩
theorem e_qInL {t : Int} {ks : List Int} {P : D → Prop} : qIn false (.int t) (.lst (iL ks)) P ↔ P (.bl (decide (t ∈ ks))) := by
  constructor
  · rintro ⟨v, l, vs, e1, e2, e3, h⟩
    rcases e2 with e2 | e2
    · cases e1; cases e2
      rw [toVs_iL] at e3; cases e3
      rw [if_neg Bool.false_ne_true, inV_zI] at h; exact h
    · cases e2
  · intro h
    exact ⟨.int t, iL ks, zI ks, rfl, .inl rfl, toVs_iL ks, by rw [if_neg Bool.false_ne_true, inV_zI]; exact h⟩
theorem iL_len {l : List Int} : (iL l).length = l.length := List.length_map _
theorem iL_get {l : List Int} {i : Nat} {d : D} (h : (iL l)[i]? = some d) : ∃ n, l[i]? = some n ∧ d = .int n := by
  unfold iL at h
  rw [List.getElem?_map] at h
  cases e : l[i]? with
  | none => rw [e] at h; cases h
  | some n => rw [e] at h; exact ⟨n, rfl, (Option.some.inj h).symm⟩
theorem iL_app {l m : List Int} : iL l ++ iL m = iL (l ++ m) := (List.map_append).symm
theorem iL_cut {l : List Int} {lo hi : Option Int} : cutD (iL l) lo hi = iL ((l.drop (HT.sIx l.length 0 lo)).take (HT.sIx l.length l.length hi - HT.sIx l.length 0 lo)) := by
  unfold cutD
  rw [iL_len]
  unfold iL
  rw [List.map_take, List.map_drop]
theorem atI_iL {l : List Int} {n : Int} (h0 : 0 ≤ n) (h1 : n < l.length) : atI (iL l) n = some (.int (l.getD n.toNat 0)) := by
  unfold atI ixN
  rw [iL_len, if_pos h0, if_pos h1]
  show (iL l)[n.toNat]? = _
  unfold iL
  rw [List.getElem?_map, List.getD_eq_getElem?_getD]
  have : n.toNat < l.length := by omega
  rw [List.getElem?_eq_getElem this]
  rfl
theorem atI_lastD {l : List Int} (h : l ≠ []) : atI (iL l) (-1) = some (.int (l.getLastD 0)) := by
  have hl := List.length_pos_iff.mpr h
  unfold atI ixN
  rw [iL_len, if_neg (by omega), if_pos (by omega)]
  show (iL l)[(-1 + (l.length : Int)).toNat]? = _
  have e : (-1 + (l.length : Int)).toNat = l.length - 1 := by omega
  rw [e]
  unfold iL
  rw [List.getElem?_map, List.getLastD_eq_getLast?, List.getLast?_eq_getElem?]
  have : l.length - 1 < l.length := by omega
  rw [List.getElem?_eq_getElem this]
  rfl
end
end TkL


namespace TkL
open PySem PySem.Spec PySem.Calls PyProof.Rows L2 Tk
def LC (g : UG) (ct : UT) (el : UE) (vs : List Nat) (P : D → Env → Prop) (xs : List D) (ρ1 : Env) : Prop := ∃ I : Nat → List D → Prop, I 0 [] ∧
  (∀ i x acc, xs[i]? = some x → I i acc → g x (wipeU ρ1 vs) fun ρ2 => ct ρ2 fun b ρ3 => if b = true then el ρ3 fun y ρ4 => wipeU ρ4 vs = wipeU ρ1 vs ∧ acc.length < 1000000 ∧ I (i + 1) (acc ++ [y]) else wipeU ρ3 vs = wipeU ρ1 vs ∧ I (i + 1) acc) ∧
  ∀ acc, I xs.length acc → P (.lst acc) ρ1
def FORU (g : UG) (b : US) (P : UEnds) (xs : List D) (ρ1 : Env) : Prop := ∃ I : Nat → Env → Prop, I 0 ρ1 ∧ (∀ i x ρ, xs[i]? = some x → I i ρ → g x ρ fun ρ2 => b { P with nx := I (i + 1), ct := I (i + 1), bk := P.nx } ρ2) ∧ ∀ ρ, I xs.length ρ → P.nx ρ
theorem e_lc {it : UI} {g : UG} {ct : UT} {el : UE} {vs : List Nat} {ρ : Env} {P : D → Env → Prop} : uLc it g ct el vs ρ P = it ρ fun xs ρ1 => LC g ct el vs P xs ρ1 := rfl
theorem e_for {it : UI} {g : UG} {b : US} {ρ : Env} {P : UEnds} : uFor it g b P ρ = it ρ fun xs ρ1 => FORU g b P xs ρ1 := rfl
def LCT (g : UG) (ct : UT) (el : UE) (vs : List Nat) (ρ1 : Env) (x : D) (acc : List D) (R : List D → Prop) : Prop := g x (wipeU ρ1 vs) fun ρ2 => ct ρ2 fun b ρ3 => if b = true then el ρ3 fun y ρ4 => wipeU ρ4 vs = wipeU ρ1 vs ∧ acc.length < 1000000 ∧ R (acc ++ [y]) else wipeU ρ3 vs = wipeU ρ1 vs ∧ R acc
section
variable {g : UG} {ct : UT} {el : UE} {vs : List Nat} {ρ1 : Env} {P : D → Env → Prop} {xs : List D}
theorem lc_inv (I : Nat → List D → Prop) (h0 : I 0 []) (hs : ∀ i x acc, xs[i]? = some x → I i acc → LCT g ct el vs ρ1 x acc (I (i + 1))) (hd : ∀ acc, I xs.length acc → P (.lst acc) ρ1) : LC g ct el vs P xs ρ1 := ⟨I, h0, hs, hd⟩
theorem lc_map (p : D → Bool) (f : D → D) (hz : xs.length ≤ 1000000) (hs : ∀ x acc (R : List D → Prop), x ∈ xs → acc.length < 1000000 → R (if p x = true then acc ++ [f x] else acc) → LCT g ct el vs ρ1 x acc R) (hd : P (.lst ((xs.filter p).map f)) ρ1) : LC g ct el vs P xs ρ1 := by
  refine lc_inv (fun i acc => acc = ((xs.take i).filter p).map f) rfl (fun i x acc hx ha => ?_) fun acc ha => ?_
  · subst ha
    have hi := lt_of_get hx
    have l1 : (((xs.take i).filter p).map f).length ≤ i := by
      rw [List.length_map]
      exact Nat.le_trans (List.length_filter_le _ _) (by rw [List.length_take]; omega)
    refine hs x _ _ (List.mem_of_getElem? hx) (by omega) ?_
    rw [take_succ_of hx, List.filter_append, List.map_append]
    cases hp : p x with
    | true => rw [if_pos rfl]; simp [hp]
    | false => rw [if_neg Bool.false_ne_true]; simp [hp]
  · subst ha; rw [List.take_length]; exact hd
theorem lc_int {l : List Int} (p : Int → Bool) (f : Int → D) (hz : l.length ≤ 1000000) (hs : ∀ (t : Int) acc (R : List D → Prop), t ∈ l → acc.length < 1000000 → R (if p t = true then acc ++ [f t] else acc) → LCT g ct el vs ρ1 (.int t) acc R) (hd : P (.lst ((l.filter p).map f)) ρ1) : LC g ct el vs P (iL l) ρ1 := by
  refine lc_map (p := fun d => match d with | .int t => p t | _ => false) (f := fun d => match d with | .int t => f t | d => d) (by rw [iL_len]; exact hz) (fun x acc R hx ha hR => ?_) ?_
  · obtain ⟨t, ht, rfl⟩ := List.mem_map.mp hx
    exact hs t acc R ht ha hR
  · have e : ((iL l).filter fun d => match d with | .int t => p t | _ => false).map (fun d => match d with | .int t => f t | d => d) = (l.filter p).map f := by
      unfold iL
      rw [List.filter_map, List.map_map]; rfl
    rw [e]; exact hd
theorem rngD_iL {n : Nat} : rngD 0 n = iL ((List.range n).map fun (k : Nat) => (k : Int)) := by
  unfold rngD iL
  rw [List.map_map]
  apply List.map_congr_left
  intro k _
  show D.int (0 + (k : Int)) = D.int (k : Int)
  rw [Int.zero_add]
theorem rngD_iLlo {lo : Int} {n : Nat} : rngD lo n = iL ((List.range n).map fun (k : Nat) => lo + (k : Int)) := by
  unfold rngD iL
  rw [List.map_map]; rfl
end
section
variable {g : UG} {b : US} {P : UEnds} {xs : List D} {ρ1 : Env}
theorem for_inv (I : Nat → Env → Prop) (h0 : I 0 ρ1) (hs : ∀ i x ρ, xs[i]? = some x → I i ρ → g x ρ fun ρ2 => b { P with nx := I (i + 1), ct := I (i + 1), bk := P.nx } ρ2) (hd : ∀ ρ, I xs.length ρ → P.nx ρ) : FORU g b P xs ρ1 := ⟨I, h0, hs, hd⟩
theorem while_inv {c : UT} {ρ : Env} (I : Nat → Env → Prop) (m : Nat) (h0 : I m ρ) (hs : ∀ m ρ, I m ρ → c ρ fun k ρ1 => if k = true then b { P with nx := fun ρ' => ∃ m', m' < m ∧ I m' ρ', ct := fun ρ' => ∃ m', m' < m ∧ I m' ρ', bk := P.nx } ρ1 else P.nx ρ1) : uWhile c b P ρ := ⟨I, ⟨m, h0⟩, hs⟩
end
def pI (l : List Int) : List PyData := l.map PyData.int
theorem pds_iL : ∀ l : List Int, pds (iL l) = some (pI l)
  | [] => by simp [iL, pds, pI]
  | a :: l => by
    have ih := pds_iL l
    show pds (.int a :: iL l) = _
    simp only [pds, pd, ih]
    rfl
theorem eqvAll_pI : ∀ l m : List Int, PyData.eqvAll (pI l) (pI m) = decide (l = m)
  | [], [] => by simp [pI, PyData.eqvAll]
  | [], b :: m => by simp [pI, PyData.eqvAll]
  | a :: l, [] => by simp [pI, PyData.eqvAll]
  | a :: l, b :: m => by
    have ih := eqvAll_pI l m
    show PyData.eqvAll (.int a :: pI l) (.int b :: pI m) = _
    rw [PyData.eqvAll, ih, PyData.eqv, Bool.eq_iff_iff]
    simp
theorem canAll_pI : ∀ l : List Int, PyData.canLayAll0 (pI l) = true
  | [] => by simp [pI, PyData.canLayAll0]
  | a :: l => by
    have ih := canAll_pI l
    show PyData.canLayAll0 (.int a :: pI l) = true
    rw [PyData.canLayAll0, ih, PyData.canLay0]; rfl
theorem depAll_pI : ∀ l : List Int, PyData.depthAll (pI l) = 0
  | [] => by simp [pI, PyData.depthAll]
  | a :: l => by
    have ih := depAll_pI l
    show PyData.depthAll (.int a :: pI l) = 0
    rw [PyData.depthAll, ih, PyData.depth]; rfl
theorem shaped_lI {l : List Int} : SeqAt.shaped (.list (pI l)) = true := by
  unfold SeqAt.shaped
  rw [PyData.canLay0, canAll_pI, PyData.depth, depAll_pI]; rfl
theorem shaped_tI {l : List Int} : SeqAt.shaped (.tuple (pI l)) = true := by
  unfold SeqAt.shaped
  rw [PyData.canLay0, canAll_pI, PyData.depth, depAll_pI]; rfl
theorem pd_lI {l : List Int} : pd (.lst (iL l)) = some (.list (pI l)) := by unfold pd; rw [pds_iL]
theorem pd_tI {l : List Int} : pd (.tup (iL l)) = some (.tuple (pI l)) := by unfold pd; rw [pds_iL]
section
variable {l m : List Int} {P : D → Prop}
theorem e_eqL : qEqD (.lst (iL l)) (.lst (iL m)) P ↔ P (.bl (decide (l = m))) := by
  unfold qEqD
  constructor
  · rintro ⟨d, e, h1, h2, _, _, h⟩
    rw [pd_lI] at h1 h2; cases h1; cases h2
    rw [PyData.eqv, eqvAll_pI] at h; exact h
  · intro h
    refine ⟨_, _, pd_lI, pd_lI, shaped_lI, shaped_lI, ?_⟩
    rw [PyData.eqv, eqvAll_pI]; exact h
theorem e_neL : qNeD (.lst (iL l)) (.lst (iL m)) P ↔ P (.bl (!decide (l = m))) := by
  unfold qNeD
  constructor
  · rintro ⟨d, e, h1, h2, _, _, h⟩
    rw [pd_lI] at h1 h2; cases h1; cases h2
    rw [PyData.eqv, eqvAll_pI] at h; exact h
  · intro h
    refine ⟨_, _, pd_lI, pd_lI, shaped_lI, shaped_lI, ?_⟩
    rw [PyData.eqv, eqvAll_pI]; exact h
theorem e_eqT : qEqD (.tup (iL l)) (.tup (iL m)) P ↔ P (.bl (decide (l = m))) := by
  unfold qEqD
  constructor
  · rintro ⟨d, e, h1, h2, _, _, h⟩
    rw [pd_tI] at h1 h2; cases h1; cases h2
    rw [PyData.eqv, eqvAll_pI] at h; exact h
  · intro h
    refine ⟨_, _, pd_tI, pd_tI, shaped_tI, shaped_tI, ?_⟩
    rw [PyData.eqv, eqvAll_pI]; exact h
theorem e_neT : qNeD (.tup (iL l)) (.tup (iL m)) P ↔ P (.bl (!decide (l = m))) := by
  unfold qNeD
  constructor
  · rintro ⟨d, e, h1, h2, _, _, h⟩
    rw [pd_tI] at h1 h2; cases h1; cases h2
    rw [PyData.eqv, eqvAll_pI] at h; exact h
  · intro h
    refine ⟨_, _, pd_tI, pd_tI, shaped_tI, shaped_tI, ?_⟩
    rw [PyData.eqv, eqvAll_pI]; exact h
theorem e_eqL0 : qEqD (.lst (iL l)) (.lst []) P ↔ P (.bl (decide (l = []))) := e_eqL (m := [])
theorem e_neL0 : qNeD (.lst (iL l)) (.lst []) P ↔ P (.bl (!decide (l = []))) := e_neL (m := [])
theorem e_eqT0 : qEqD (.tup (iL l)) (.tup []) P ↔ P (.bl (decide (l = []))) := e_eqT (m := [])
theorem e_neT0 : qNeD (.tup (iL l)) (.tup []) P ↔ P (.bl (!decide (l = []))) := e_neT (m := [])
theorem e_eqLB {l m : List Bool} : qEqD (.lst (bL l)) (.lst (bL m)) P ↔ P (.bl (decide (l = m))) := by
  have a : ∀ l : List Bool, pds (bL l) = some (l.map PyData.bool) := fun l => by
    induction l with
    | nil => simp [bL, pds]
    | cons a l ih => show pds (.bl a :: bL l) = _; simp only [pds, pd, ih]; rfl
  have b : ∀ l : List Bool, pd (.lst (bL l)) = some (.list (l.map PyData.bool)) := fun l => by unfold pd; rw [a]
  have c : ∀ l : List Bool, SeqAt.shaped (.list (l.map PyData.bool)) = true := fun l => by
    have c1 : ∀ l : List Bool, PyData.canLayAll0 (l.map PyData.bool) = true := fun l => by
      induction l with
      | nil => simp [PyData.canLayAll0]
      | cons a l ih => rw [List.map_cons, PyData.canLayAll0, ih, PyData.canLay0]; rfl
    have c2 : ∀ l : List Bool, PyData.depthAll (l.map PyData.bool) = 0 := fun l => by
      induction l with
      | nil => simp [PyData.depthAll]
      | cons a l ih => rw [List.map_cons, PyData.depthAll, ih, PyData.depth]; rfl
    unfold SeqAt.shaped
    rw [PyData.canLay0, c1, PyData.depth, c2]; rfl
  have d : ∀ l m : List Bool, PyData.eqvAll (l.map PyData.bool) (m.map PyData.bool) = decide (l = m) := fun l => by
    induction l with
    | nil => intro m; cases m <;> simp [PyData.eqvAll]
    | cons a l ih => intro m; cases m with
      | nil => simp [PyData.eqvAll]
      | cons b m => rw [List.map_cons, List.map_cons, PyData.eqvAll, ih, PyData.eqv, Bool.eq_iff_iff]; simp
  unfold qEqD
  constructor
  · rintro ⟨x, e, h1, h2, _, _, h⟩
    rw [b] at h1 h2; cases h1; cases h2
    rw [PyData.eqv, d] at h; exact h
  · intro h
    refine ⟨_, _, b l, b m, c l, c m, ?_⟩
    rw [PyData.eqv, d]; exact h
theorem e_neLB {l m : List Bool} : qNeD (.lst (bL l)) (.lst (bL m)) P ↔ P (.bl (!decide (l = m))) := by
  have z := e_eqLB (l := l) (m := m) (P := fun d => match d with | .bl c => P (.bl (!c)) | _ => False)
  refine Iff.trans ?_ z
  unfold qNeD qEqD
  exact Iff.rfl
theorem e_dict : gDict [.lst (l.map prT)] P ↔ P (.mrk l) := by
  unfold gDict
  constructor
  · rintro ⟨ks, e, h⟩
    have : l = ks := (List.map_inj_right (fun a b h => by cases h; rfl)).mp e
    rw [this]; exact h
  · intro h; exact ⟨l, rfl, h⟩
end
theorem atI_c {l : List D} {n : Nat} {d : D} (h : l[n]? = some d) : atI l (n : Int) = some d := by
  have hn := lt_of_get h
  unfold atI ixN
  rw [if_pos (Int.natCast_nonneg n), if_pos (by omega)]
  show l[(n : Int).toNat]? = _
  rw [Int.toNat_natCast]; exact h
theorem ex_at {l : List D} {n : Nat} {d : D} {P : D → Prop} (h : l[n]? = some d) (p : P d) : ∃ x, atI l (n : Int) = some x ∧ P x := ⟨d, atI_c h, p⟩
theorem ex_at0 {x : D} {l : List D} {P : D → Prop} : (∃ d, atI (x :: l) 0 = some d ∧ P d) ↔ P x := by
  constructor
  · rintro ⟨d, h, p⟩
    have := atI_c (l := x :: l) (n := 0) (d := x) rfl
    rw [show ((0 : Nat) : Int) = 0 from rfl] at this
    rw [this] at h; cases h; exact p
  · intro p; exact ⟨x, atI_c (n := 0) rfl, p⟩
theorem ex_at1 {x y : D} {l : List D} {P : D → Prop} : (∃ d, atI (x :: y :: l) 1 = some d ∧ P d) ↔ P y := by
  constructor
  · rintro ⟨d, h, p⟩
    have := atI_c (l := x :: y :: l) (n := 1) (d := y) rfl
    rw [show ((1 : Nat) : Int) = 1 from rfl] at this
    rw [this] at h; cases h; exact p
  · intro p; exact ⟨y, atI_c (n := 1) rfl, p⟩
theorem ex_at2 {x y z : D} {l : List D} {P : D → Prop} : (∃ d, atI (x :: y :: z :: l) 2 = some d ∧ P d) ↔ P z := by
  constructor
  · rintro ⟨d, h, p⟩
    have := atI_c (l := x :: y :: z :: l) (n := 2) (d := z) rfl
    rw [show ((2 : Nat) : Int) = 2 from rfl] at this
    rw [this] at h; cases h; exact p
  · intro p; exact ⟨z, atI_c (n := 2) rfl, p⟩
theorem cut_m1 {l : List Int} : (l.drop (HT.sIx l.length 0 none)).take (HT.sIx l.length l.length (some (-1)) - HT.sIx l.length 0 none) = l.dropLast := by
  show (l.drop 0).take ((if (-1 : Int) < 0 then ((-1 : Int) + (l.length : Int)).toNat else min (-1 : Int).toNat l.length) - 0) = _
  rw [if_pos (by decide), List.drop_zero, Nat.sub_zero, List.dropLast_eq_take]
  congr 1
  omega
theorem cut_hiN {l : List Int} {k : Int} (h : 0 ≤ k) : (l.drop (HT.sIx l.length 0 none)).take (HT.sIx l.length l.length (some k) - HT.sIx l.length 0 none) = l.take k.toNat := by
  show (l.drop 0).take ((if k < 0 then (k + (l.length : Int)).toNat else min k.toNat l.length) - 0) = _
  rw [if_neg (by omega), List.drop_zero, Nat.sub_zero, List.take_eq_take_iff]
  omega
theorem cut_loN {l : List Int} {k : Int} (h : 0 ≤ k) : (l.drop (HT.sIx l.length 0 (some k))).take (HT.sIx l.length l.length none - HT.sIx l.length 0 (some k)) = l.drop k.toNat := by
  show (l.drop (if k < 0 then (k + (l.length : Int)).toNat else min k.toNat l.length)).take (l.length - (if k < 0 then (k + (l.length : Int)).toNat else min k.toNat l.length)) = _
  rw [if_neg (by omega)]
  by_cases c : k.toNat ≤ l.length
  · rw [Nat.min_eq_left c, List.take_of_length_le (by rw [List.length_drop]; exact Nat.le_refl _)]
  · rw [Nat.min_eq_right (by omega), List.drop_of_length_le (Nat.le_refl _), List.drop_of_length_le (by omega), List.take_nil]
theorem e_neg {n : Int} {P : D → Prop} : qNeg (.int n) P = P (.int (-n)) := rfl
end TkL


namespace TkL
open PySem PySem.Spec PySem.Calls PyProof.Rows L2 Tk
section
variable {d : D} {l : List D} {ρ : Env} {Q : D → Env → Prop} {a0 a1 a2 a3 a4 a5 a6 a7 a8 a9 a10 a11 a12 a13 a14 a15 a16 a17 a18 a19 a20 a21 a22 a23 a24 a25 a26 a27 a28 a29 a30 a31 a32 a33 : Sl}
theorem ev_v0 : uVar 0 (Sl.val d :: ρ) Q = Q d (Sl.val d :: ρ) := rfl
theorem ev_o0 : uVar 0 (Sl.own l :: ρ) Q = Q (.lst l) (Sl.own l :: ρ) := rfl
theorem ev_p0 : uPer 0 (Sl.val d :: ρ) Q = Q d (Sl.val d :: ρ) := rfl
theorem ev_q0 : uPer 0 (Sl.own l :: ρ) Q = Q (.lst l) (Sl.val (.lst l) :: ρ) := rfl
theorem ev_v1 : uVar 1 (a0 :: Sl.val d :: ρ) Q = Q d (a0 :: Sl.val d :: ρ) := rfl
theorem ev_o1 : uVar 1 (a0 :: Sl.own l :: ρ) Q = Q (.lst l) (a0 :: Sl.own l :: ρ) := rfl
theorem ev_p1 : uPer 1 (a0 :: Sl.val d :: ρ) Q = Q d (a0 :: Sl.val d :: ρ) := rfl
theorem ev_q1 : uPer 1 (a0 :: Sl.own l :: ρ) Q = Q (.lst l) (a0 :: Sl.val (.lst l) :: ρ) := rfl
theorem ev_v2 : uVar 2 (a0 :: a1 :: Sl.val d :: ρ) Q = Q d (a0 :: a1 :: Sl.val d :: ρ) := rfl
theorem ev_o2 : uVar 2 (a0 :: a1 :: Sl.own l :: ρ) Q = Q (.lst l) (a0 :: a1 :: Sl.own l :: ρ) := rfl
theorem ev_p2 : uPer 2 (a0 :: a1 :: Sl.val d :: ρ) Q = Q d (a0 :: a1 :: Sl.val d :: ρ) := rfl
theorem ev_q2 : uPer 2 (a0 :: a1 :: Sl.own l :: ρ) Q = Q (.lst l) (a0 :: a1 :: Sl.val (.lst l) :: ρ) := rfl
theorem ev_v3 : uVar 3 (a0 :: a1 :: a2 :: Sl.val d :: ρ) Q = Q d (a0 :: a1 :: a2 :: Sl.val d :: ρ) := rfl
theorem ev_o3 : uVar 3 (a0 :: a1 :: a2 :: Sl.own l :: ρ) Q = Q (.lst l) (a0 :: a1 :: a2 :: Sl.own l :: ρ) := rfl
theorem ev_p3 : uPer 3 (a0 :: a1 :: a2 :: Sl.val d :: ρ) Q = Q d (a0 :: a1 :: a2 :: Sl.val d :: ρ) := rfl
theorem ev_q3 : uPer 3 (a0 :: a1 :: a2 :: Sl.own l :: ρ) Q = Q (.lst l) (a0 :: a1 :: a2 :: Sl.val (.lst l) :: ρ) := rfl
theorem ev_v4 : uVar 4 (a0 :: a1 :: a2 :: a3 :: Sl.val d :: ρ) Q = Q d (a0 :: a1 :: a2 :: a3 :: Sl.val d :: ρ) := rfl
theorem ev_o4 : uVar 4 (a0 :: a1 :: a2 :: a3 :: Sl.own l :: ρ) Q = Q (.lst l) (a0 :: a1 :: a2 :: a3 :: Sl.own l :: ρ) := rfl
theorem ev_p4 : uPer 4 (a0 :: a1 :: a2 :: a3 :: Sl.val d :: ρ) Q = Q d (a0 :: a1 :: a2 :: a3 :: Sl.val d :: ρ) := rfl
theorem ev_q4 : uPer 4 (a0 :: a1 :: a2 :: a3 :: Sl.own l :: ρ) Q = Q (.lst l) (a0 :: a1 :: a2 :: a3 :: Sl.val (.lst l) :: ρ) := rfl
theorem ev_v5 : uVar 5 (a0 :: a1 :: a2 :: a3 :: a4 :: Sl.val d :: ρ) Q = Q d (a0 :: a1 :: a2 :: a3 :: a4 :: Sl.val d :: ρ) := rfl
theorem ev_o5 : uVar 5 (a0 :: a1 :: a2 :: a3 :: a4 :: Sl.own l :: ρ) Q = Q (.lst l) (a0 :: a1 :: a2 :: a3 :: a4 :: Sl.own l :: ρ) := rfl
theorem ev_p5 : uPer 5 (a0 :: a1 :: a2 :: a3 :: a4 :: Sl.val d :: ρ) Q = Q d (a0 :: a1 :: a2 :: a3 :: a4 :: Sl.val d :: ρ) := rfl
theorem ev_q5 : uPer 5 (a0 :: a1 :: a2 :: a3 :: a4 :: Sl.own l :: ρ) Q = Q (.lst l) (a0 :: a1 :: a2 :: a3 :: a4 :: Sl.val (.lst l) :: ρ) := rfl
theorem ev_v6 : uVar 6 (a0 :: a1 :: a2 :: a3 :: a4 :: a5 :: Sl.val d :: ρ) Q = Q d (a0 :: a1 :: a2 :: a3 :: a4 :: a5 :: Sl.val d :: ρ) := rfl
theorem ev_o6 : uVar 6 (a0 :: a1 :: a2 :: a3 :: a4 :: a5 :: Sl.own l :: ρ) Q = Q (.lst l) (a0 :: a1 :: a2 :: a3 :: a4 :: a5 :: Sl.own l :: ρ) := rfl
theorem ev_p6 : uPer 6 (a0 :: a1 :: a2 :: a3 :: a4 :: a5 :: Sl.val d :: ρ) Q = Q d (a0 :: a1 :: a2 :: a3 :: a4 :: a5 :: Sl.val d :: ρ) := rfl
theorem ev_q6 : uPer 6 (a0 :: a1 :: a2 :: a3 :: a4 :: a5 :: Sl.own l :: ρ) Q = Q (.lst l) (a0 :: a1 :: a2 :: a3 :: a4 :: a5 :: Sl.val (.lst l) :: ρ) := rfl
theorem ev_v7 : uVar 7 (a0 :: a1 :: a2 :: a3 :: a4 :: a5 :: a6 :: Sl.val d :: ρ) Q = Q d (a0 :: a1 :: a2 :: a3 :: a4 :: a5 :: a6 :: Sl.val d :: ρ) := rfl
theorem ev_o7 : uVar 7 (a0 :: a1 :: a2 :: a3 :: a4 :: a5 :: a6 :: Sl.own l :: ρ) Q = Q (.lst l) (a0 :: a1 :: a2 :: a3 :: a4 :: a5 :: a6 :: Sl.own l :: ρ) := rfl
theorem ev_p7 : uPer 7 (a0 :: a1 :: a2 :: a3 :: a4 :: a5 :: a6 :: Sl.val d :: ρ) Q = Q d (a0 :: a1 :: a2 :: a3 :: a4 :: a5 :: a6 :: Sl.val d :: ρ) := rfl
theorem ev_q7 : uPer 7 (a0 :: a1 :: a2 :: a3 :: a4 :: a5 :: a6 :: Sl.own l :: ρ) Q = Q (.lst l) (a0 :: a1 :: a2 :: a3 :: a4 :: a5 :: a6 :: Sl.val (.lst l) :: ρ) := rfl
theorem ev_v8 : uVar 8 (a0 :: a1 :: a2 :: a3 :: a4 :: a5 :: a6 :: a7 :: Sl.val d :: ρ) Q = Q d (a0 :: a1 :: a2 :: a3 :: a4 :: a5 :: a6 :: a7 :: Sl.val d :: ρ) := rfl
theorem ev_o8 : uVar 8 (a0 :: a1 :: a2 :: a3 :: a4 :: a5 :: a6 :: a7 :: Sl.own l :: ρ) Q = Q (.lst l) (a0 :: a1 :: a2 :: a3 :: a4 :: a5 :: a6 :: a7 :: Sl.own l :: ρ) := rfl
theorem ev_p8 : uPer 8 (a0 :: a1 :: a2 :: a3 :: a4 :: a5 :: a6 :: a7 :: Sl.val d :: ρ) Q = Q d (a0 :: a1 :: a2 :: a3 :: a4 :: a5 :: a6 :: a7 :: Sl.val d :: ρ) := rfl
theorem ev_q8 : uPer 8 (a0 :: a1 :: a2 :: a3 :: a4 :: a5 :: a6 :: a7 :: Sl.own l :: ρ) Q = Q (.lst l) (a0 :: a1 :: a2 :: a3 :: a4 :: a5 :: a6 :: a7 :: Sl.val (.lst l) :: ρ) := rfl
theorem ev_v9 : uVar 9 (a0 :: a1 :: a2 :: a3 :: a4 :: a5 :: a6 :: a7 :: a8 :: Sl.val d :: ρ) Q = Q d (a0 :: a1 :: a2 :: a3 :: a4 :: a5 :: a6 :: a7 :: a8 :: Sl.val d :: ρ) := rfl
theorem ev_o9 : uVar 9 (a0 :: a1 :: a2 :: a3 :: a4 :: a5 :: a6 :: a7 :: a8 :: Sl.own l :: ρ) Q = Q (.lst l) (a0 :: a1 :: a2 :: a3 :: a4 :: a5 :: a6 :: a7 :: a8 :: Sl.own l :: ρ) := rfl
theorem ev_p9 : uPer 9 (a0 :: a1 :: a2 :: a3 :: a4 :: a5 :: a6 :: a7 :: a8 :: Sl.val d :: ρ) Q = Q d (a0 :: a1 :: a2 :: a3 :: a4 :: a5 :: a6 :: a7 :: a8 :: Sl.val d :: ρ) := rfl
theorem ev_q9 : uPer 9 (a0 :: a1 :: a2 :: a3 :: a4 :: a5 :: a6 :: a7 :: a8 :: Sl.own l :: ρ) Q = Q (.lst l) (a0 :: a1 :: a2 :: a3 :: a4 :: a5 :: a6 :: a7 :: a8 :: Sl.val (.lst l) :: ρ) := rfl
theorem ev_v10 : uVar 10 (a0 :: a1 :: a2 :: a3 :: a4 :: a5 :: a6 :: a7 :: a8 :: a9 :: Sl.val d :: ρ) Q = Q d (a0 :: a1 :: a2 :: a3 :: a4 :: a5 :: a6 :: a7 :: a8 :: a9 :: Sl.val d :: ρ) := rfl
theorem ev_o10 : uVar 10 (a0 :: a1 :: a2 :: a3 :: a4 :: a5 :: a6 :: a7 :: a8 :: a9 :: Sl.own l :: ρ) Q = Q (.lst l) (a0 :: a1 :: a2 :: a3 :: a4 :: a5 :: a6 :: a7 :: a8 :: a9 :: Sl.own l :: ρ) := rfl
theorem ev_p10 : uPer 10 (a0 :: a1 :: a2 :: a3 :: a4 :: a5 :: a6 :: a7 :: a8 :: a9 :: Sl.val d :: ρ) Q = Q d (a0 :: a1 :: a2 :: a3 :: a4 :: a5 :: a6 :: a7 :: a8 :: a9 :: Sl.val d :: ρ) := rfl
theorem ev_q10 : uPer 10 (a0 :: a1 :: a2 :: a3 :: a4 :: a5 :: a6 :: a7 :: a8 :: a9 :: Sl.own l :: ρ) Q = Q (.lst l) (a0 :: a1 :: a2 :: a3 :: a4 :: a5 :: a6 :: a7 :: a8 :: a9 :: Sl.val (.lst l) :: ρ) := rfl
theorem ev_v11 : uVar 11 (a0 :: a1 :: a2 :: a3 :: a4 :: a5 :: a6 :: a7 :: a8 :: a9 :: a10 :: Sl.val d :: ρ) Q = Q d (a0 :: a1 :: a2 :: a3 :: a4 :: a5 :: a6 :: a7 :: a8 :: a9 :: a10 :: Sl.val d :: ρ) := rfl
theorem ev_o11 : uVar 11 (a0 :: a1 :: a2 :: a3 :: a4 :: a5 :: a6 :: a7 :: a8 :: a9 :: a10 :: Sl.own l :: ρ) Q = Q (.lst l) (a0 :: a1 :: a2 :: a3 :: a4 :: a5 :: a6 :: a7 :: a8 :: a9 :: a10 :: Sl.own l :: ρ) := rfl
theorem ev_p11 : uPer 11 (a0 :: a1 :: a2 :: a3 :: a4 :: a5 :: a6 :: a7 :: a8 :: a9 :: a10 :: Sl.val d :: ρ) Q = Q d (a0 :: a1 :: a2 :: a3 :: a4 :: a5 :: a6 :: a7 :: a8 :: a9 :: a10 :: Sl.val d :: ρ) := rfl
theorem ev_q11 : uPer 11 (a0 :: a1 :: a2 :: a3 :: a4 :: a5 :: a6 :: a7 :: a8 :: a9 :: a10 :: Sl.own l :: ρ) Q = Q (.lst l) (a0 :: a1 :: a2 :: a3 :: a4 :: a5 :: a6 :: a7 :: a8 :: a9 :: a10 :: Sl.val (.lst l) :: ρ) := rfl
theorem ev_v12 : uVar 12 (a0 :: a1 :: a2 :: a3 :: a4 :: a5 :: a6 :: a7 :: a8 :: a9 :: a10 :: a11 :: Sl.val d :: ρ) Q = Q d (a0 :: a1 :: a2 :: a3 :: a4 :: a5 :: a6 :: a7 :: a8 :: a9 :: a10 :: a11 :: Sl.val d :: ρ) := rfl
theorem ev_o12 : uVar 12 (a0 :: a1 :: a2 :: a3 :: a4 :: a5 :: a6 :: a7 :: a8 :: a9 :: a10 :: a11 :: Sl.own l :: ρ) Q = Q (.lst l) (a0 :: a1 :: a2 :: a3 :: a4 :: a5 :: a6 :: a7 :: a8 :: a9 :: a10 :: a11 :: Sl.own l :: ρ) := rfl
theorem ev_p12 : uPer 12 (a0 :: a1 :: a2 :: a3 :: a4 :: a5 :: a6 :: a7 :: a8 :: a9 :: a10 :: a11 :: Sl.val d :: ρ) Q = Q d (a0 :: a1 :: a2 :: a3 :: a4 :: a5 :: a6 :: a7 :: a8 :: a9 :: a10 :: a11 :: Sl.val d :: ρ) := rfl
theorem ev_q12 : uPer 12 (a0 :: a1 :: a2 :: a3 :: a4 :: a5 :: a6 :: a7 :: a8 :: a9 :: a10 :: a11 :: Sl.own l :: ρ) Q = Q (.lst l) (a0 :: a1 :: a2 :: a3 :: a4 :: a5 :: a6 :: a7 :: a8 :: a9 :: a10 :: a11 :: Sl.val (.lst l) :: ρ) := rfl
theorem ev_v13 : uVar 13 (a0 :: a1 :: a2 :: a3 :: a4 :: a5 :: a6 :: a7 :: a8 :: a9 :: a10 :: a11 :: a12 :: Sl.val d :: ρ) Q = Q d (a0 :: a1 :: a2 :: a3 :: a4 :: a5 :: a6 :: a7 :: a8 :: a9 :: a10 :: a11 :: a12 :: Sl.val d :: ρ) := rfl
theorem ev_o13 : uVar 13 (a0 :: a1 :: a2 :: a3 :: a4 :: a5 :: a6 :: a7 :: a8 :: a9 :: a10 :: a11 :: a12 :: Sl.own l :: ρ) Q = Q (.lst l) (a0 :: a1 :: a2 :: a3 :: a4 :: a5 :: a6 :: a7 :: a8 :: a9 :: a10 :: a11 :: a12 :: Sl.own l :: ρ) := rfl
theorem ev_p13 : uPer 13 (a0 :: a1 :: a2 :: a3 :: a4 :: a5 :: a6 :: a7 :: a8 :: a9 :: a10 :: a11 :: a12 :: Sl.val d :: ρ) Q = Q d (a0 :: a1 :: a2 :: a3 :: a4 :: a5 :: a6 :: a7 :: a8 :: a9 :: a10 :: a11 :: a12 :: Sl.val d :: ρ) := rfl
theorem ev_q13 : uPer 13 (a0 :: a1 :: a2 :: a3 :: a4 :: a5 :: a6 :: a7 :: a8 :: a9 :: a10 :: a11 :: a12 :: Sl.own l :: ρ) Q = Q (.lst l) (a0 :: a1 :: a2 :: a3 :: a4 :: a5 :: a6 :: a7 :: a8 :: a9 :: a10 :: a11 :: a12 :: Sl.val (.lst l) :: ρ) := rfl
theorem ev_v14 : uVar 14 (a0 :: a1 :: a2 :: a3 :: a4 :: a5 :: a6 :: a7 :: a8 :: a9 :: a10 :: a11 :: a12 :: a13 :: Sl.val d :: ρ) Q = Q d (a0 :: a1 :: a2 :: a3 :: a4 :: a5 :: a6 :: a7 :: a8 :: a9 :: a10 :: a11 :: a12 :: a13 :: Sl.val d :: ρ) := rfl
theorem ev_o14 : uVar 14 (a0 :: a1 :: a2 :: a3 :: a4 :: a5 :: a6 :: a7 :: a8 :: a9 :: a10 :: a11 :: a12 :: a13 :: Sl.own l :: ρ) Q = Q (.lst l) (a0 :: a1 :: a2 :: a3 :: a4 :: a5 :: a6 :: a7 :: a8 :: a9 :: a10 :: a11 :: a12 :: a13 :: Sl.own l :: ρ) := rfl
theorem ev_p14 : uPer 14 (a0 :: a1 :: a2 :: a3 :: a4 :: a5 :: a6 :: a7 :: a8 :: a9 :: a10 :: a11 :: a12 :: a13 :: Sl.val d :: ρ) Q = Q d (a0 :: a1 :: a2 :: a3 :: a4 :: a5 :: a6 :: a7 :: a8 :: a9 :: a10 :: a11 :: a12 :: a13 :: Sl.val d :: ρ) := rfl
theorem ev_q14 : uPer 14 (a0 :: a1 :: a2 :: a3 :: a4 :: a5 :: a6 :: a7 :: a8 :: a9 :: a10 :: a11 :: a12 :: a13 :: Sl.own l :: ρ) Q = Q (.lst l) (a0 :: a1 :: a2 :: a3 :: a4 :: a5 :: a6 :: a7 :: a8 :: a9 :: a10 :: a11 :: a12 :: a13 :: Sl.val (.lst l) :: ρ) := rfl
theorem ev_v15 : uVar 15 (a0 :: a1 :: a2 :: a3 :: a4 :: a5 :: a6 :: a7 :: a8 :: a9 :: a10 :: a11 :: a12 :: a13 :: a14 :: Sl.val d :: ρ) Q = Q d (a0 :: a1 :: a2 :: a3 :: a4 :: a5 :: a6 :: a7 :: a8 :: a9 :: a10 :: a11 :: a12 :: a13 :: a14 :: Sl.val d :: ρ) := rfl
theorem ev_o15 : uVar 15 (a0 :: a1 :: a2 :: a3 :: a4 :: a5 :: a6 :: a7 :: a8 :: a9 :: a10 :: a11 :: a12 :: a13 :: a14 :: Sl.own l :: ρ) Q = Q (.lst l) (a0 :: a1 :: a2 :: a3 :: a4 :: a5 :: a6 :: a7 :: a8 :: a9 :: a10 :: a11 :: a12 :: a13 :: a14 :: Sl.own l :: ρ) := rfl
theorem ev_p15 : uPer 15 (a0 :: a1 :: a2 :: a3 :: a4 :: a5 :: a6 :: a7 :: a8 :: a9 :: a10 :: a11 :: a12 :: a13 :: a14 :: Sl.val d :: ρ) Q = Q d (a0 :: a1 :: a2 :: a3 :: a4 :: a5 :: a6 :: a7 :: a8 :: a9 :: a10 :: a11 :: a12 :: a13 :: a14 :: Sl.val d :: ρ) := rfl
theorem ev_q15 : uPer 15 (a0 :: a1 :: a2 :: a3 :: a4 :: a5 :: a6 :: a7 :: a8 :: a9 :: a10 :: a11 :: a12 :: a13 :: a14 :: Sl.own l :: ρ) Q = Q (.lst l) (a0 :: a1 :: a2 :: a3 :: a4 :: a5 :: a6 :: a7 :: a8 :: a9 :: a10 :: a11 :: a12 :: a13 :: a14 :: Sl.val (.lst l) :: ρ) := rfl
theorem ev_v16 : uVar 16 (a0 :: a1 :: a2 :: a3 :: a4 :: a5 :: a6 :: a7 :: a8 :: a9 :: a10 :: a11 :: a12 :: a13 :: a14 :: a15 :: Sl.val d :: ρ) Q = Q d (a0 :: a1 :: a2 :: a3 :: a4 :: a5 :: a6 :: a7 :: a8 :: a9 :: a10 :: a11 :: a12 :: a13 :: a14 :: a15 :: Sl.val d :: ρ) := rfl
theorem ev_o16 : uVar 16 (a0 :: a1 :: a2 :: a3 :: a4 :: a5 :: a6 :: a7 :: a8 :: a9 :: a10 :: a11 :: a12 :: a13 :: a14 :: a15 :: Sl.own l :: ρ) Q = Q (.lst l) (a0 :: a1 :: a2 :: a3 :: a4 :: a5 :: a6 :: a7 :: a8 :: a9 :: a10 :: a11 :: a12 :: a13 :: a14 :: a15 :: Sl.own l :: ρ) := rfl
theorem ev_p16 : uPer 16 (a0 :: a1 :: a2 :: a3 :: a4 :: a5 :: a6 :: a7 :: a8 :: a9 :: a10 :: a11 :: a12 :: a13 :: a14 :: a15 :: Sl.val d :: ρ) Q = Q d (a0 :: a1 :: a2 :: a3 :: a4 :: a5 :: a6 :: a7 :: a8 :: a9 :: a10 :: a11 :: a12 :: a13 :: a14 :: a15 :: Sl.val d :: ρ) := rfl
theorem ev_q16 : uPer 16 (a0 :: a1 :: a2 :: a3 :: a4 :: a5 :: a6 :: a7 :: a8 :: a9 :: a10 :: a11 :: a12 :: a13 :: a14 :: a15 :: Sl.own l :: ρ) Q = Q (.lst l) (a0 :: a1 :: a2 :: a3 :: a4 :: a5 :: a6 :: a7 :: a8 :: a9 :: a10 :: a11 :: a12 :: a13 :: a14 :: a15 :: Sl.val (.lst l) :: ρ) := rfl
theorem ev_v17 : uVar 17 (a0 :: a1 :: a2 :: a3 :: a4 :: a5 :: a6 :: a7 :: a8 :: a9 :: a10 :: a11 :: a12 :: a13 :: a14 :: a15 :: a16 :: Sl.val d :: ρ) Q = Q d (a0 :: a1 :: a2 :: a3 :: a4 :: a5 :: a6 :: a7 :: a8 :: a9 :: a10 :: a11 :: a12 :: a13 :: a14 :: a15 :: a16 :: Sl.val d :: ρ) := rfl
theorem ev_o17 : uVar 17 (a0 :: a1 :: a2 :: a3 :: a4 :: a5 :: a6 :: a7 :: a8 :: a9 :: a10 :: a11 :: a12 :: a13 :: a14 :: a15 :: a16 :: Sl.own l :: ρ) Q = Q (.lst l) (a0 :: a1 :: a2 :: a3 :: a4 :: a5 :: a6 :: a7 :: a8 :: a9 :: a10 :: a11 :: a12 :: a13 :: a14 :: a15 :: a16 :: Sl.own l :: ρ) := rfl
theorem ev_p17 : uPer 17 (a0 :: a1 :: a2 :: a3 :: a4 :: a5 :: a6 :: a7 :: a8 :: a9 :: a10 :: a11 :: a12 :: a13 :: a14 :: a15 :: a16 :: Sl.val d :: ρ) Q = Q d (a0 :: a1 :: a2 :: a3 :: a4 :: a5 :: a6 :: a7 :: a8 :: a9 :: a10 :: a11 :: a12 :: a13 :: a14 :: a15 :: a16 :: Sl.val d :: ρ) := rfl
theorem ev_q17 : uPer 17 (a0 :: a1 :: a2 :: a3 :: a4 :: a5 :: a6 :: a7 :: a8 :: a9 :: a10 :: a11 :: a12 :: a13 :: a14 :: a15 :: a16 :: Sl.own l :: ρ) Q = Q (.lst l) (a0 :: a1 :: a2 :: a3 :: a4 :: a5 :: a6 :: a7 :: a8 :: a9 :: a10 :: a11 :: a12 :: a13 :: a14 :: a15 :: a16 :: Sl.val (.lst l) :: ρ) := rfl
theorem ev_v18 : uVar 18 (a0 :: a1 :: a2 :: a3 :: a4 :: a5 :: a6 :: a7 :: a8 :: a9 :: a10 :: a11 :: a12 :: a13 :: a14 :: a15 :: a16 :: a17 :: Sl.val d :: ρ) Q = Q d (a0 :: a1 :: a2 :: a3 :: a4 :: a5 :: a6 :: a7 :: a8 :: a9 :: a10 :: a11 :: a12 :: a13 :: a14 :: a15 :: a16 :: a17 :: Sl.val d :: ρ) := rfl
theorem ev_o18 : uVar 18 (a0 :: a1 :: a2 :: a3 :: a4 :: a5 :: a6 :: a7 :: a8 :: a9 :: a10 :: a11 :: a12 :: a13 :: a14 :: a15 :: a16 :: a17 :: Sl.own l :: ρ) Q = Q (.lst l) (a0 :: a1 :: a2 :: a3 :: a4 :: a5 :: a6 :: a7 :: a8 :: a9 :: a10 :: a11 :: a12 :: a13 :: a14 :: a15 :: a16 :: a17 :: Sl.own l :: ρ) := rfl
theorem ev_p18 : uPer 18 (a0 :: a1 :: a2 :: a3 :: a4 :: a5 :: a6 :: a7 :: a8 :: a9 :: a10 :: a11 :: a12 :: a13 :: a14 :: a15 :: a16 :: a17 :: Sl.val d :: ρ) Q = Q d (a0 :: a1 :: a2 :: a3 :: a4 :: a5 :: a6 :: a7 :: a8 :: a9 :: a10 :: a11 :: a12 :: a13 :: a14 :: a15 :: a16 :: a17 :: Sl.val d :: ρ) := rfl
theorem ev_q18 : uPer 18 (a0 :: a1 :: a2 :: a3 :: a4 :: a5 :: a6 :: a7 :: a8 :: a9 :: a10 :: a11 :: a12 :: a13 :: a14 :: a15 :: a16 :: a17 :: Sl.own l :: ρ) Q = Q (.lst l) (a0 :: a1 :: a2 :: a3 :: a4 :: a5 :: a6 :: a7 :: a8 :: a9 :: a10 :: a11 :: a12 :: a13 :: a14 :: a15 :: a16 :: a17 :: Sl.val (.lst l) :: ρ) := rfl
theorem ev_v19 : uVar 19 (a0 :: a1 :: a2 :: a3 :: a4 :: a5 :: a6 :: a7 :: a8 :: a9 :: a10 :: a11 :: a12 :: a13 :: a14 :: a15 :: a16 :: a17 :: a18 :: Sl.val d :: ρ) Q = Q d (a0 :: a1 :: a2 :: a3 :: a4 :: a5 :: a6 :: a7 :: a8 :: a9 :: a10 :: a11 :: a12 :: a13 :: a14 :: a15 :: a16 :: a17 :: a18 :: Sl.val d :: ρ) := rfl
theorem ev_o19 : uVar 19 (a0 :: a1 :: a2 :: a3 :: a4 :: a5 :: a6 :: a7 :: a8 :: a9 :: a10 :: a11 :: a12 :: a13 :: a14 :: a15 :: a16 :: a17 :: a18 :: Sl.own l :: ρ) Q = Q (.lst l) (a0 :: a1 :: a2 :: a3 :: a4 :: a5 :: a6 :: a7 :: a8 :: a9 :: a10 :: a11 :: a12 :: a13 :: a14 :: a15 :: a16 :: a17 :: a18 :: Sl.own l :: ρ) := rfl
theorem ev_p19 : uPer 19 (a0 :: a1 :: a2 :: a3 :: a4 :: a5 :: a6 :: a7 :: a8 :: a9 :: a10 :: a11 :: a12 :: a13 :: a14 :: a15 :: a16 :: a17 :: a18 :: Sl.val d :: ρ) Q = Q d (a0 :: a1 :: a2 :: a3 :: a4 :: a5 :: a6 :: a7 :: a8 :: a9 :: a10 :: a11 :: a12 :: a13 :: a14 :: a15 :: a16 :: a17 :: a18 :: Sl.val d :: ρ) := rfl
theorem ev_q19 : uPer 19 (a0 :: a1 :: a2 :: a3 :: a4 :: a5 :: a6 :: a7 :: a8 :: a9 :: a10 :: a11 :: a12 :: a13 :: a14 :: a15 :: a16 :: a17 :: a18 :: Sl.own l :: ρ) Q = Q (.lst l) (a0 :: a1 :: a2 :: a3 :: a4 :: a5 :: a6 :: a7 :: a8 :: a9 :: a10 :: a11 :: a12 :: a13 :: a14 :: a15 :: a16 :: a17 :: a18 :: Sl.val (.lst l) :: ρ) := rfl
theorem ev_v20 : uVar 20 (a0 :: a1 :: a2 :: a3 :: a4 :: a5 :: a6 :: a7 :: a8 :: a9 :: a10 :: a11 :: a12 :: a13 :: a14 :: a15 :: a16 :: a17 :: a18 :: a19 :: Sl.val d :: ρ) Q = Q d (a0 :: a1 :: a2 :: a3 :: a4 :: a5 :: a6 :: a7 :: a8 :: a9 :: a10 :: a11 :: a12 :: a13 :: a14 :: a15 :: a16 :: a17 :: a18 :: a19 :: Sl.val d :: ρ) := rfl
theorem ev_o20 : uVar 20 (a0 :: a1 :: a2 :: a3 :: a4 :: a5 :: a6 :: a7 :: a8 :: a9 :: a10 :: a11 :: a12 :: a13 :: a14 :: a15 :: a16 :: a17 :: a18 :: a19 :: Sl.own l :: ρ) Q = Q (.lst l) (a0 :: a1 :: a2 :: a3 :: a4 :: a5 :: a6 :: a7 :: a8 :: a9 :: a10 :: a11 :: a12 :: a13 :: a14 :: a15 :: a16 :: a17 :: a18 :: a19 :: Sl.own l :: ρ) := rfl
theorem ev_p20 : uPer 20 (a0 :: a1 :: a2 :: a3 :: a4 :: a5 :: a6 :: a7 :: a8 :: a9 :: a10 :: a11 :: a12 :: a13 :: a14 :: a15 :: a16 :: a17 :: a18 :: a19 :: Sl.val d :: ρ) Q = Q d (a0 :: a1 :: a2 :: a3 :: a4 :: a5 :: a6 :: a7 :: a8 :: a9 :: a10 :: a11 :: a12 :: a13 :: a14 :: a15 :: a16 :: a17 :: a18 :: a19 :: Sl.val d :: ρ) := rfl
theorem ev_q20 : uPer 20 (a0 :: a1 :: a2 :: a3 :: a4 :: a5 :: a6 :: a7 :: a8 :: a9 :: a10 :: a11 :: a12 :: a13 :: a14 :: a15 :: a16 :: a17 :: a18 :: a19 :: Sl.own l :: ρ) Q = Q (.lst l) (a0 :: a1 :: a2 :: a3 :: a4 :: a5 :: a6 :: a7 :: a8 :: a9 :: a10 :: a11 :: a12 :: a13 :: a14 :: a15 :: a16 :: a17 :: a18 :: a19 :: Sl.val (.lst l) :: ρ) := rfl
theorem ev_v21 : uVar 21 (a0 :: a1 :: a2 :: a3 :: a4 :: a5 :: a6 :: a7 :: a8 :: a9 :: a10 :: a11 :: a12 :: a13 :: a14 :: a15 :: a16 :: a17 :: a18 :: a19 :: a20 :: Sl.val d :: ρ) Q = Q d (a0 :: a1 :: a2 :: a3 :: a4 :: a5 :: a6 :: a7 :: a8 :: a9 :: a10 :: a11 :: a12 :: a13 :: a14 :: a15 :: a16 :: a17 :: a18 :: a19 :: a20 :: Sl.val d :: ρ) := rfl
theorem ev_o21 : uVar 21 (a0 :: a1 :: a2 :: a3 :: a4 :: a5 :: a6 :: a7 :: a8 :: a9 :: a10 :: a11 :: a12 :: a13 :: a14 :: a15 :: a16 :: a17 :: a18 :: a19 :: a20 :: Sl.own l :: ρ) Q = Q (.lst l) (a0 :: a1 :: a2 :: a3 :: a4 :: a5 :: a6 :: a7 :: a8 :: a9 :: a10 :: a11 :: a12 :: a13 :: a14 :: a15 :: a16 :: a17 :: a18 :: a19 :: a20 :: Sl.own l :: ρ) := rfl
theorem ev_p21 : uPer 21 (a0 :: a1 :: a2 :: a3 :: a4 :: a5 :: a6 :: a7 :: a8 :: a9 :: a10 :: a11 :: a12 :: a13 :: a14 :: a15 :: a16 :: a17 :: a18 :: a19 :: a20 :: Sl.val d :: ρ) Q = Q d (a0 :: a1 :: a2 :: a3 :: a4 :: a5 :: a6 :: a7 :: a8 :: a9 :: a10 :: a11 :: a12 :: a13 :: a14 :: a15 :: a16 :: a17 :: a18 :: a19 :: a20 :: Sl.val d :: ρ) := rfl
theorem ev_q21 : uPer 21 (a0 :: a1 :: a2 :: a3 :: a4 :: a5 :: a6 :: a7 :: a8 :: a9 :: a10 :: a11 :: a12 :: a13 :: a14 :: a15 :: a16 :: a17 :: a18 :: a19 :: a20 :: Sl.own l :: ρ) Q = Q (.lst l) (a0 :: a1 :: a2 :: a3 :: a4 :: a5 :: a6 :: a7 :: a8 :: a9 :: a10 :: a11 :: a12 :: a13 :: a14 :: a15 :: a16 :: a17 :: a18 :: a19 :: a20 :: Sl.val (.lst l) :: ρ) := rfl
theorem ev_v22 : uVar 22 (a0 :: a1 :: a2 :: a3 :: a4 :: a5 :: a6 :: a7 :: a8 :: a9 :: a10 :: a11 :: a12 :: a13 :: a14 :: a15 :: a16 :: a17 :: a18 :: a19 :: a20 :: a21 :: Sl.val d :: ρ) Q = Q d (a0 :: a1 :: a2 :: a3 :: a4 :: a5 :: a6 :: a7 :: a8 :: a9 :: a10 :: a11 :: a12 :: a13 :: a14 :: a15 :: a16 :: a17 :: a18 :: a19 :: a20 :: a21 :: Sl.val d :: ρ) := rfl
theorem ev_o22 : uVar 22 (a0 :: a1 :: a2 :: a3 :: a4 :: a5 :: a6 :: a7 :: a8 :: a9 :: a10 :: a11 :: a12 :: a13 :: a14 :: a15 :: a16 :: a17 :: a18 :: a19 :: a20 :: a21 :: Sl.own l :: ρ) Q = Q (.lst l) (a0 :: a1 :: a2 :: a3 :: a4 :: a5 :: a6 :: a7 :: a8 :: a9 :: a10 :: a11 :: a12 :: a13 :: a14 :: a15 :: a16 :: a17 :: a18 :: a19 :: a20 :: a21 :: Sl.own l :: ρ) := rfl
theorem ev_p22 : uPer 22 (a0 :: a1 :: a2 :: a3 :: a4 :: a5 :: a6 :: a7 :: a8 :: a9 :: a10 :: a11 :: a12 :: a13 :: a14 :: a15 :: a16 :: a17 :: a18 :: a19 :: a20 :: a21 :: Sl.val d :: ρ) Q = Q d (a0 :: a1 :: a2 :: a3 :: a4 :: a5 :: a6 :: a7 :: a8 :: a9 :: a10 :: a11 :: a12 :: a13 :: a14 :: a15 :: a16 :: a17 :: a18 :: a19 :: a20 :: a21 :: Sl.val d :: ρ) := rfl
theorem ev_q22 : uPer 22 (a0 :: a1 :: a2 :: a3 :: a4 :: a5 :: a6 :: a7 :: a8 :: a9 :: a10 :: a11 :: a12 :: a13 :: a14 :: a15 :: a16 :: a17 :: a18 :: a19 :: a20 :: a21 :: Sl.own l :: ρ) Q = Q (.lst l) (a0 :: a1 :: a2 :: a3 :: a4 :: a5 :: a6 :: a7 :: a8 :: a9 :: a10 :: a11 :: a12 :: a13 :: a14 :: a15 :: a16 :: a17 :: a18 :: a19 :: a20 :: a21 :: Sl.val (.lst l) :: ρ) := rfl
theorem ev_v23 : uVar 23 (a0 :: a1 :: a2 :: a3 :: a4 :: a5 :: a6 :: a7 :: a8 :: a9 :: a10 :: a11 :: a12 :: a13 :: a14 :: a15 :: a16 :: a17 :: a18 :: a19 :: a20 :: a21 :: a22 :: Sl.val d :: ρ) Q = Q d (a0 :: a1 :: a2 :: a3 :: a4 :: a5 :: a6 :: a7 :: a8 :: a9 :: a10 :: a11 :: a12 :: a13 :: a14 :: a15 :: a16 :: a17 :: a18 :: a19 :: a20 :: a21 :: a22 :: Sl.val d :: ρ) := rfl
theorem ev_o23 : uVar 23 (a0 :: a1 :: a2 :: a3 :: a4 :: a5 :: a6 :: a7 :: a8 :: a9 :: a10 :: a11 :: a12 :: a13 :: a14 :: a15 :: a16 :: a17 :: a18 :: a19 :: a20 :: a21 :: a22 :: Sl.own l :: ρ) Q = Q (.lst l) (a0 :: a1 :: a2 :: a3 :: a4 :: a5 :: a6 :: a7 :: a8 :: a9 :: a10 :: a11 :: a12 :: a13 :: a14 :: a15 :: a16 :: a17 :: a18 :: a19 :: a20 :: a21 :: a22 :: Sl.own l :: ρ) := rfl
theorem ev_p23 : uPer 23 (a0 :: a1 :: a2 :: a3 :: a4 :: a5 :: a6 :: a7 :: a8 :: a9 :: a10 :: a11 :: a12 :: a13 :: a14 :: a15 :: a16 :: a17 :: a18 :: a19 :: a20 :: a21 :: a22 :: Sl.val d :: ρ) Q = Q d (a0 :: a1 :: a2 :: a3 :: a4 :: a5 :: a6 :: a7 :: a8 :: a9 :: a10 :: a11 :: a12 :: a13 :: a14 :: a15 :: a16 :: a17 :: a18 :: a19 :: a20 :: a21 :: a22 :: Sl.val d :: ρ) := rfl
theorem ev_q23 : uPer 23 (a0 :: a1 :: a2 :: a3 :: a4 :: a5 :: a6 :: a7 :: a8 :: a9 :: a10 :: a11 :: a12 :: a13 :: a14 :: a15 :: a16 :: a17 :: a18 :: a19 :: a20 :: a21 :: a22 :: Sl.own l :: ρ) Q = Q (.lst l) (a0 :: a1 :: a2 :: a3 :: a4 :: a5 :: a6 :: a7 :: a8 :: a9 :: a10 :: a11 :: a12 :: a13 :: a14 :: a15 :: a16 :: a17 :: a18 :: a19 :: a20 :: a21 :: a22 :: Sl.val (.lst l) :: ρ) := rfl
theorem ev_v24 : uVar 24 (a0 :: a1 :: a2 :: a3 :: a4 :: a5 :: a6 :: a7 :: a8 :: a9 :: a10 :: a11 :: a12 :: a13 :: a14 :: a15 :: a16 :: a17 :: a18 :: a19 :: a20 :: a21 :: a22 :: a23 :: Sl.val d :: ρ) Q = Q d (a0 :: a1 :: a2 :: a3 :: a4 :: a5 :: a6 :: a7 :: a8 :: a9 :: a10 :: a11 :: a12 :: a13 :: a14 :: a15 :: a16 :: a17 :: a18 :: a19 :: a20 :: a21 :: a22 :: a23 :: Sl.val d :: ρ) := rfl
theorem ev_o24 : uVar 24 (a0 :: a1 :: a2 :: a3 :: a4 :: a5 :: a6 :: a7 :: a8 :: a9 :: a10 :: a11 :: a12 :: a13 :: a14 :: a15 :: a16 :: a17 :: a18 :: a19 :: a20 :: a21 :: a22 :: a23 :: Sl.own l :: ρ) Q = Q (.lst l) (a0 :: a1 :: a2 :: a3 :: a4 :: a5 :: a6 :: a7 :: a8 :: a9 :: a10 :: a11 :: a12 :: a13 :: a14 :: a15 :: a16 :: a17 :: a18 :: a19 :: a20 :: a21 :: a22 :: a23 :: Sl.own l :: ρ) := rfl
theorem ev_p24 : uPer 24 (a0 :: a1 :: a2 :: a3 :: a4 :: a5 :: a6 :: a7 :: a8 :: a9 :: a10 :: a11 :: a12 :: a13 :: a14 :: a15 :: a16 :: a17 :: a18 :: a19 :: a20 :: a21 :: a22 :: a23 :: Sl.val d :: ρ) Q = Q d (a0 :: a1 :: a2 :: a3 :: a4 :: a5 :: a6 :: a7 :: a8 :: a9 :: a10 :: a11 :: a12 :: a13 :: a14 :: a15 :: a16 :: a17 :: a18 :: a19 :: a20 :: a21 :: a22 :: a23 :: Sl.val d :: ρ) := rfl
theorem ev_q24 : uPer 24 (a0 :: a1 :: a2 :: a3 :: a4 :: a5 :: a6 :: a7 :: a8 :: a9 :: a10 :: a11 :: a12 :: a13 :: a14 :: a15 :: a16 :: a17 :: a18 :: a19 :: a20 :: a21 :: a22 :: a23 :: Sl.own l :: ρ) Q = Q (.lst l) (a0 :: a1 :: a2 :: a3 :: a4 :: a5 :: a6 :: a7 :: a8 :: a9 :: a10 :: a11 :: a12 :: a13 :: a14 :: a15 :: a16 :: a17 :: a18 :: a19 :: a20 :: a21 :: a22 :: a23 :: Sl.val (.lst l) :: ρ) := rfl
theorem ev_v25 : uVar 25 (a0 :: a1 :: a2 :: a3 :: a4 :: a5 :: a6 :: a7 :: a8 :: a9 :: a10 :: a11 :: a12 :: a13 :: a14 :: a15 :: a16 :: a17 :: a18 :: a19 :: a20 :: a21 :: a22 :: a23 :: a24 :: Sl.val d :: ρ) Q = Q d (a0 :: a1 :: a2 :: a3 :: a4 :: a5 :: a6 :: a7 :: a8 :: a9 :: a10 :: a11 :: a12 :: a13 :: a14 :: a15 :: a16 :: a17 :: a18 :: a19 :: a20 :: a21 :: a22 :: a23 :: a24 :: Sl.val d :: ρ) := rfl
theorem ev_o25 : uVar 25 (a0 :: a1 :: a2 :: a3 :: a4 :: a5 :: a6 :: a7 :: a8 :: a9 :: a10 :: a11 :: a12 :: a13 :: a14 :: a15 :: a16 :: a17 :: a18 :: a19 :: a20 :: a21 :: a22 :: a23 :: a24 :: Sl.own l :: ρ) Q = Q (.lst l) (a0 :: a1 :: a2 :: a3 :: a4 :: a5 :: a6 :: a7 :: a8 :: a9 :: a10 :: a11 :: a12 :: a13 :: a14 :: a15 :: a16 :: a17 :: a18 :: a19 :: a20 :: a21 :: a22 :: a23 :: a24 :: Sl.own l :: ρ) := rfl
theorem ev_p25 : uPer 25 (a0 :: a1 :: a2 :: a3 :: a4 :: a5 :: a6 :: a7 :: a8 :: a9 :: a10 :: a11 :: a12 :: a13 :: a14 :: a15 :: a16 :: a17 :: a18 :: a19 :: a20 :: a21 :: a22 :: a23 :: a24 :: Sl.val d :: ρ) Q = Q d (a0 :: a1 :: a2 :: a3 :: a4 :: a5 :: a6 :: a7 :: a8 :: a9 :: a10 :: a11 :: a12 :: a13 :: a14 :: a15 :: a16 :: a17 :: a18 :: a19 :: a20 :: a21 :: a22 :: a23 :: a24 :: Sl.val d :: ρ) := rfl
theorem ev_q25 : uPer 25 (a0 :: a1 :: a2 :: a3 :: a4 :: a5 :: a6 :: a7 :: a8 :: a9 :: a10 :: a11 :: a12 :: a13 :: a14 :: a15 :: a16 :: a17 :: a18 :: a19 :: a20 :: a21 :: a22 :: a23 :: a24 :: Sl.own l :: ρ) Q = Q (.lst l) (a0 :: a1 :: a2 :: a3 :: a4 :: a5 :: a6 :: a7 :: a8 :: a9 :: a10 :: a11 :: a12 :: a13 :: a14 :: a15 :: a16 :: a17 :: a18 :: a19 :: a20 :: a21 :: a22 :: a23 :: a24 :: Sl.val (.lst l) :: ρ) := rfl
theorem ev_v26 : uVar 26 (a0 :: a1 :: a2 :: a3 :: a4 :: a5 :: a6 :: a7 :: a8 :: a9 :: a10 :: a11 :: a12 :: a13 :: a14 :: a15 :: a16 :: a17 :: a18 :: a19 :: a20 :: a21 :: a22 :: a23 :: a24 :: a25 :: Sl.val d :: ρ) Q = Q d (a0 :: a1 :: a2 :: a3 :: a4 :: a5 :: a6 :: a7 :: a8 :: a9 :: a10 :: a11 :: a12 :: a13 :: a14 :: a15 :: a16 :: a17 :: a18 :: a19 :: a20 :: a21 :: a22 :: a23 :: a24 :: a25 :: Sl.val d :: ρ) := rfl
theorem ev_o26 : uVar 26 (a0 :: a1 :: a2 :: a3 :: a4 :: a5 :: a6 :: a7 :: a8 :: a9 :: a10 :: a11 :: a12 :: a13 :: a14 :: a15 :: a16 :: a17 :: a18 :: a19 :: a20 :: a21 :: a22 :: a23 :: a24 :: a25 :: Sl.own l :: ρ) Q = Q (.lst l) (a0 :: a1 :: a2 :: a3 :: a4 :: a5 :: a6 :: a7 :: a8 :: a9 :: a10 :: a11 :: a12 :: a13 :: a14 :: a15 :: a16 :: a17 :: a18 :: a19 :: a20 :: a21 :: a22 :: a23 :: a24 :: a25 :: Sl.own l :: ρ) := rfl
theorem ev_p26 : uPer 26 (a0 :: a1 :: a2 :: a3 :: a4 :: a5 :: a6 :: a7 :: a8 :: a9 :: a10 :: a11 :: a12 :: a13 :: a14 :: a15 :: a16 :: a17 :: a18 :: a19 :: a20 :: a21 :: a22 :: a23 :: a24 :: a25 :: Sl.val d :: ρ) Q = Q d (a0 :: a1 :: a2 :: a3 :: a4 :: a5 :: a6 :: a7 :: a8 :: a9 :: a10 :: a11 :: a12 :: a13 :: a14 :: a15 :: a16 :: a17 :: a18 :: a19 :: a20 :: a21 :: a22 :: a23 :: a24 :: a25 :: Sl.val d :: ρ) := rfl
theorem ev_q26 : uPer 26 (a0 :: a1 :: a2 :: a3 :: a4 :: a5 :: a6 :: a7 :: a8 :: a9 :: a10 :: a11 :: a12 :: a13 :: a14 :: a15 :: a16 :: a17 :: a18 :: a19 :: a20 :: a21 :: a22 :: a23 :: a24 :: a25 :: Sl.own l :: ρ) Q = Q (.lst l) (a0 :: a1 :: a2 :: a3 :: a4 :: a5 :: a6 :: a7 :: a8 :: a9 :: a10 :: a11 :: a12 :: a13 :: a14 :: a15 :: a16 :: a17 :: a18 :: a19 :: a20 :: a21 :: a22 :: a23 :: a24 :: a25 :: Sl.val (.lst l) :: ρ) := rfl
theorem ev_v27 : uVar 27 (a0 :: a1 :: a2 :: a3 :: a4 :: a5 :: a6 :: a7 :: a8 :: a9 :: a10 :: a11 :: a12 :: a13 :: a14 :: a15 :: a16 :: a17 :: a18 :: a19 :: a20 :: a21 :: a22 :: a23 :: a24 :: a25 :: a26 :: Sl.val d :: ρ) Q = Q d (a0 :: a1 :: a2 :: a3 :: a4 :: a5 :: a6 :: a7 :: a8 :: a9 :: a10 :: a11 :: a12 :: a13 :: a14 :: a15 :: a16 :: a17 :: a18 :: a19 :: a20 :: a21 :: a22 :: a23 :: a24 :: a25 :: a26 :: Sl.val d :: ρ) := rfl
theorem ev_o27 : uVar 27 (a0 :: a1 :: a2 :: a3 :: a4 :: a5 :: a6 :: a7 :: a8 :: a9 :: a10 :: a11 :: a12 :: a13 :: a14 :: a15 :: a16 :: a17 :: a18 :: a19 :: a20 :: a21 :: a22 :: a23 :: a24 :: a25 :: a26 :: Sl.own l :: ρ) Q = Q (.lst l) (a0 :: a1 :: a2 :: a3 :: a4 :: a5 :: a6 :: a7 :: a8 :: a9 :: a10 :: a11 :: a12 :: a13 :: a14 :: a15 :: a16 :: a17 :: a18 :: a19 :: a20 :: a21 :: a22 :: a23 :: a24 :: a25 :: a26 :: Sl.own l :: ρ) := rfl
theorem ev_p27 : uPer 27 (a0 :: a1 :: a2 :: a3 :: a4 :: a5 :: a6 :: a7 :: a8 :: a9 :: a10 :: a11 :: a12 :: a13 :: a14 :: a15 :: a16 :: a17 :: a18 :: a19 :: a20 :: a21 :: a22 :: a23 :: a24 :: a25 :: a26 :: Sl.val d :: ρ) Q = Q d (a0 :: a1 :: a2 :: a3 :: a4 :: a5 :: a6 :: a7 :: a8 :: a9 :: a10 :: a11 :: a12 :: a13 :: a14 :: a15 :: a16 :: a17 :: a18 :: a19 :: a20 :: a21 :: a22 :: a23 :: a24 :: a25 :: a26 :: Sl.val d :: ρ) := rfl
theorem ev_q27 : uPer 27 (a0 :: a1 :: a2 :: a3 :: a4 :: a5 :: a6 :: a7 :: a8 :: a9 :: a10 :: a11 :: a12 :: a13 :: a14 :: a15 :: a16 :: a17 :: a18 :: a19 :: a20 :: a21 :: a22 :: a23 :: a24 :: a25 :: a26 :: Sl.own l :: ρ) Q = Q (.lst l) (a0 :: a1 :: a2 :: a3 :: a4 :: a5 :: a6 :: a7 :: a8 :: a9 :: a10 :: a11 :: a12 :: a13 :: a14 :: a15 :: a16 :: a17 :: a18 :: a19 :: a20 :: a21 :: a22 :: a23 :: a24 :: a25 :: a26 :: Sl.val (.lst l) :: ρ) := rfl
theorem ev_v28 : uVar 28 (a0 :: a1 :: a2 :: a3 :: a4 :: a5 :: a6 :: a7 :: a8 :: a9 :: a10 :: a11 :: a12 :: a13 :: a14 :: a15 :: a16 :: a17 :: a18 :: a19 :: a20 :: a21 :: a22 :: a23 :: a24 :: a25 :: a26 :: a27 :: Sl.val d :: ρ) Q = Q d (a0 :: a1 :: a2 :: a3 :: a4 :: a5 :: a6 :: a7 :: a8 :: a9 :: a10 :: a11 :: a12 :: a13 :: a14 :: a15 :: a16 :: a17 :: a18 :: a19 :: a20 :: a21 :: a22 :: a23 :: a24 :: a25 :: a26 :: a27 :: Sl.val d :: ρ) := rfl
theorem ev_o28 : uVar 28 (a0 :: a1 :: a2 :: a3 :: a4 :: a5 :: a6 :: a7 :: a8 :: a9 :: a10 :: a11 :: a12 :: a13 :: a14 :: a15 :: a16 :: a17 :: a18 :: a19 :: a20 :: a21 :: a22 :: a23 :: a24 :: a25 :: a26 :: a27 :: Sl.own l :: ρ) Q = Q (.lst l) (a0 :: a1 :: a2 :: a3 :: a4 :: a5 :: a6 :: a7 :: a8 :: a9 :: a10 :: a11 :: a12 :: a13 :: a14 :: a15 :: a16 :: a17 :: a18 :: a19 :: a20 :: a21 :: a22 :: a23 :: a24 :: a25 :: a26 :: a27 :: Sl.own l :: ρ) := rfl
theorem ev_p28 : uPer 28 (a0 :: a1 :: a2 :: a3 :: a4 :: a5 :: a6 :: a7 :: a8 :: a9 :: a10 :: a11 :: a12 :: a13 :: a14 :: a15 :: a16 :: a17 :: a18 :: a19 :: a20 :: a21 :: a22 :: a23 :: a24 :: a25 :: a26 :: a27 :: Sl.val d :: ρ) Q = Q d (a0 :: a1 :: a2 :: a3 :: a4 :: a5 :: a6 :: a7 :: a8 :: a9 :: a10 :: a11 :: a12 :: a13 :: a14 :: a15 :: a16 :: a17 :: a18 :: a19 :: a20 :: a21 :: a22 :: a23 :: a24 :: a25 :: a26 :: a27 :: Sl.val d :: ρ) := rfl
theorem ev_q28 : uPer 28 (a0 :: a1 :: a2 :: a3 :: a4 :: a5 :: a6 :: a7 :: a8 :: a9 :: a10 :: a11 :: a12 :: a13 :: a14 :: a15 :: a16 :: a17 :: a18 :: a19 :: a20 :: a21 :: a22 :: a23 :: a24 :: a25 :: a26 :: a27 :: Sl.own l :: ρ) Q = Q (.lst l) (a0 :: a1 :: a2 :: a3 :: a4 :: a5 :: a6 :: a7 :: a8 :: a9 :: a10 :: a11 :: a12 :: a13 :: a14 :: a15 :: a16 :: a17 :: a18 :: a19 :: a20 :: a21 :: a22 :: a23 :: a24 :: a25 :: a26 :: a27 :: Sl.val (.lst l) :: ρ) := rfl
theorem ev_v29 : uVar 29 (a0 :: a1 :: a2 :: a3 :: a4 :: a5 :: a6 :: a7 :: a8 :: a9 :: a10 :: a11 :: a12 :: a13 :: a14 :: a15 :: a16 :: a17 :: a18 :: a19 :: a20 :: a21 :: a22 :: a23 :: a24 :: a25 :: a26 :: a27 :: a28 :: Sl.val d :: ρ) Q = Q d (a0 :: a1 :: a2 :: a3 :: a4 :: a5 :: a6 :: a7 :: a8 :: a9 :: a10 :: a11 :: a12 :: a13 :: a14 :: a15 :: a16 :: a17 :: a18 :: a19 :: a20 :: a21 :: a22 :: a23 :: a24 :: a25 :: a26 :: a27 :: a28 :: Sl.val d :: ρ) := rfl
theorem ev_o29 : uVar 29 (a0 :: a1 :: a2 :: a3 :: a4 :: a5 :: a6 :: a7 :: a8 :: a9 :: a10 :: a11 :: a12 :: a13 :: a14 :: a15 :: a16 :: a17 :: a18 :: a19 :: a20 :: a21 :: a22 :: a23 :: a24 :: a25 :: a26 :: a27 :: a28 :: Sl.own l :: ρ) Q = Q (.lst l) (a0 :: a1 :: a2 :: a3 :: a4 :: a5 :: a6 :: a7 :: a8 :: a9 :: a10 :: a11 :: a12 :: a13 :: a14 :: a15 :: a16 :: a17 :: a18 :: a19 :: a20 :: a21 :: a22 :: a23 :: a24 :: a25 :: a26 :: a27 :: a28 :: Sl.own l :: ρ) := rfl
theorem ev_p29 : uPer 29 (a0 :: a1 :: a2 :: a3 :: a4 :: a5 :: a6 :: a7 :: a8 :: a9 :: a10 :: a11 :: a12 :: a13 :: a14 :: a15 :: a16 :: a17 :: a18 :: a19 :: a20 :: a21 :: a22 :: a23 :: a24 :: a25 :: a26 :: a27 :: a28 :: Sl.val d :: ρ) Q = Q d (a0 :: a1 :: a2 :: a3 :: a4 :: a5 :: a6 :: a7 :: a8 :: a9 :: a10 :: a11 :: a12 :: a13 :: a14 :: a15 :: a16 :: a17 :: a18 :: a19 :: a20 :: a21 :: a22 :: a23 :: a24 :: a25 :: a26 :: a27 :: a28 :: Sl.val d :: ρ) := rfl
theorem ev_q29 : uPer 29 (a0 :: a1 :: a2 :: a3 :: a4 :: a5 :: a6 :: a7 :: a8 :: a9 :: a10 :: a11 :: a12 :: a13 :: a14 :: a15 :: a16 :: a17 :: a18 :: a19 :: a20 :: a21 :: a22 :: a23 :: a24 :: a25 :: a26 :: a27 :: a28 :: Sl.own l :: ρ) Q = Q (.lst l) (a0 :: a1 :: a2 :: a3 :: a4 :: a5 :: a6 :: a7 :: a8 :: a9 :: a10 :: a11 :: a12 :: a13 :: a14 :: a15 :: a16 :: a17 :: a18 :: a19 :: a20 :: a21 :: a22 :: a23 :: a24 :: a25 :: a26 :: a27 :: a28 :: Sl.val (.lst l) :: ρ) := rfl
theorem ev_v30 : uVar 30 (a0 :: a1 :: a2 :: a3 :: a4 :: a5 :: a6 :: a7 :: a8 :: a9 :: a10 :: a11 :: a12 :: a13 :: a14 :: a15 :: a16 :: a17 :: a18 :: a19 :: a20 :: a21 :: a22 :: a23 :: a24 :: a25 :: a26 :: a27 :: a28 :: a29 :: Sl.val d :: ρ) Q = Q d (a0 :: a1 :: a2 :: a3 :: a4 :: a5 :: a6 :: a7 :: a8 :: a9 :: a10 :: a11 :: a12 :: a13 :: a14 :: a15 :: a16 :: a17 :: a18 :: a19 :: a20 :: a21 :: a22 :: a23 :: a24 :: a25 :: a26 :: a27 :: a28 :: a29 :: Sl.val d :: ρ) := rfl
theorem ev_o30 : uVar 30 (a0 :: a1 :: a2 :: a3 :: a4 :: a5 :: a6 :: a7 :: a8 :: a9 :: a10 :: a11 :: a12 :: a13 :: a14 :: a15 :: a16 :: a17 :: a18 :: a19 :: a20 :: a21 :: a22 :: a23 :: a24 :: a25 :: a26 :: a27 :: a28 :: a29 :: Sl.own l :: ρ) Q = Q (.lst l) (a0 :: a1 :: a2 :: a3 :: a4 :: a5 :: a6 :: a7 :: a8 :: a9 :: a10 :: a11 :: a12 :: a13 :: a14 :: a15 :: a16 :: a17 :: a18 :: a19 :: a20 :: a21 :: a22 :: a23 :: a24 :: a25 :: a26 :: a27 :: a28 :: a29 :: Sl.own l :: ρ) := rfl
theorem ev_p30 : uPer 30 (a0 :: a1 :: a2 :: a3 :: a4 :: a5 :: a6 :: a7 :: a8 :: a9 :: a10 :: a11 :: a12 :: a13 :: a14 :: a15 :: a16 :: a17 :: a18 :: a19 :: a20 :: a21 :: a22 :: a23 :: a24 :: a25 :: a26 :: a27 :: a28 :: a29 :: Sl.val d :: ρ) Q = Q d (a0 :: a1 :: a2 :: a3 :: a4 :: a5 :: a6 :: a7 :: a8 :: a9 :: a10 :: a11 :: a12 :: a13 :: a14 :: a15 :: a16 :: a17 :: a18 :: a19 :: a20 :: a21 :: a22 :: a23 :: a24 :: a25 :: a26 :: a27 :: a28 :: a29 :: Sl.val d :: ρ) := rfl
theorem ev_q30 : uPer 30 (a0 :: a1 :: a2 :: a3 :: a4 :: a5 :: a6 :: a7 :: a8 :: a9 :: a10 :: a11 :: a12 :: a13 :: a14 :: a15 :: a16 :: a17 :: a18 :: a19 :: a20 :: a21 :: a22 :: a23 :: a24 :: a25 :: a26 :: a27 :: a28 :: a29 :: Sl.own l :: ρ) Q = Q (.lst l) (a0 :: a1 :: a2 :: a3 :: a4 :: a5 :: a6 :: a7 :: a8 :: a9 :: a10 :: a11 :: a12 :: a13 :: a14 :: a15 :: a16 :: a17 :: a18 :: a19 :: a20 :: a21 :: a22 :: a23 :: a24 :: a25 :: a26 :: a27 :: a28 :: a29 :: Sl.val (.lst l) :: ρ) := rfl
theorem ev_v31 : uVar 31 (a0 :: a1 :: a2 :: a3 :: a4 :: a5 :: a6 :: a7 :: a8 :: a9 :: a10 :: a11 :: a12 :: a13 :: a14 :: a15 :: a16 :: a17 :: a18 :: a19 :: a20 :: a21 :: a22 :: a23 :: a24 :: a25 :: a26 :: a27 :: a28 :: a29 :: a30 :: Sl.val d :: ρ) Q = Q d (a0 :: a1 :: a2 :: a3 :: a4 :: a5 :: a6 :: a7 :: a8 :: a9 :: a10 :: a11 :: a12 :: a13 :: a14 :: a15 :: a16 :: a17 :: a18 :: a19 :: a20 :: a21 :: a22 :: a23 :: a24 :: a25 :: a26 :: a27 :: a28 :: a29 :: a30 :: Sl.val d :: ρ) := rfl
theorem ev_o31 : uVar 31 (a0 :: a1 :: a2 :: a3 :: a4 :: a5 :: a6 :: a7 :: a8 :: a9 :: a10 :: a11 :: a12 :: a13 :: a14 :: a15 :: a16 :: a17 :: a18 :: a19 :: a20 :: a21 :: a22 :: a23 :: a24 :: a25 :: a26 :: a27 :: a28 :: a29 :: a30 :: Sl.own l :: ρ) Q = Q (.lst l) (a0 :: a1 :: a2 :: a3 :: a4 :: a5 :: a6 :: a7 :: a8 :: a9 :: a10 :: a11 :: a12 :: a13 :: a14 :: a15 :: a16 :: a17 :: a18 :: a19 :: a20 :: a21 :: a22 :: a23 :: a24 :: a25 :: a26 :: a27 :: a28 :: a29 :: a30 :: Sl.own l :: ρ) := rfl
theorem ev_p31 : uPer 31 (a0 :: a1 :: a2 :: a3 :: a4 :: a5 :: a6 :: a7 :: a8 :: a9 :: a10 :: a11 :: a12 :: a13 :: a14 :: a15 :: a16 :: a17 :: a18 :: a19 :: a20 :: a21 :: a22 :: a23 :: a24 :: a25 :: a26 :: a27 :: a28 :: a29 :: a30 :: Sl.val d :: ρ) Q = Q d (a0 :: a1 :: a2 :: a3 :: a4 :: a5 :: a6 :: a7 :: a8 :: a9 :: a10 :: a11 :: a12 :: a13 :: a14 :: a15 :: a16 :: a17 :: a18 :: a19 :: a20 :: a21 :: a22 :: a23 :: a24 :: a25 :: a26 :: a27 :: a28 :: a29 :: a30 :: Sl.val d :: ρ) := rfl
theorem ev_q31 : uPer 31 (a0 :: a1 :: a2 :: a3 :: a4 :: a5 :: a6 :: a7 :: a8 :: a9 :: a10 :: a11 :: a12 :: a13 :: a14 :: a15 :: a16 :: a17 :: a18 :: a19 :: a20 :: a21 :: a22 :: a23 :: a24 :: a25 :: a26 :: a27 :: a28 :: a29 :: a30 :: Sl.own l :: ρ) Q = Q (.lst l) (a0 :: a1 :: a2 :: a3 :: a4 :: a5 :: a6 :: a7 :: a8 :: a9 :: a10 :: a11 :: a12 :: a13 :: a14 :: a15 :: a16 :: a17 :: a18 :: a19 :: a20 :: a21 :: a22 :: a23 :: a24 :: a25 :: a26 :: a27 :: a28 :: a29 :: a30 :: Sl.val (.lst l) :: ρ) := rfl
theorem ev_v32 : uVar 32 (a0 :: a1 :: a2 :: a3 :: a4 :: a5 :: a6 :: a7 :: a8 :: a9 :: a10 :: a11 :: a12 :: a13 :: a14 :: a15 :: a16 :: a17 :: a18 :: a19 :: a20 :: a21 :: a22 :: a23 :: a24 :: a25 :: a26 :: a27 :: a28 :: a29 :: a30 :: a31 :: Sl.val d :: ρ) Q = Q d (a0 :: a1 :: a2 :: a3 :: a4 :: a5 :: a6 :: a7 :: a8 :: a9 :: a10 :: a11 :: a12 :: a13 :: a14 :: a15 :: a16 :: a17 :: a18 :: a19 :: a20 :: a21 :: a22 :: a23 :: a24 :: a25 :: a26 :: a27 :: a28 :: a29 :: a30 :: a31 :: Sl.val d :: ρ) := rfl
theorem ev_o32 : uVar 32 (a0 :: a1 :: a2 :: a3 :: a4 :: a5 :: a6 :: a7 :: a8 :: a9 :: a10 :: a11 :: a12 :: a13 :: a14 :: a15 :: a16 :: a17 :: a18 :: a19 :: a20 :: a21 :: a22 :: a23 :: a24 :: a25 :: a26 :: a27 :: a28 :: a29 :: a30 :: a31 :: Sl.own l :: ρ) Q = Q (.lst l) (a0 :: a1 :: a2 :: a3 :: a4 :: a5 :: a6 :: a7 :: a8 :: a9 :: a10 :: a11 :: a12 :: a13 :: a14 :: a15 :: a16 :: a17 :: a18 :: a19 :: a20 :: a21 :: a22 :: a23 :: a24 :: a25 :: a26 :: a27 :: a28 :: a29 :: a30 :: a31 :: Sl.own l :: ρ) := rfl
theorem ev_p32 : uPer 32 (a0 :: a1 :: a2 :: a3 :: a4 :: a5 :: a6 :: a7 :: a8 :: a9 :: a10 :: a11 :: a12 :: a13 :: a14 :: a15 :: a16 :: a17 :: a18 :: a19 :: a20 :: a21 :: a22 :: a23 :: a24 :: a25 :: a26 :: a27 :: a28 :: a29 :: a30 :: a31 :: Sl.val d :: ρ) Q = Q d (a0 :: a1 :: a2 :: a3 :: a4 :: a5 :: a6 :: a7 :: a8 :: a9 :: a10 :: a11 :: a12 :: a13 :: a14 :: a15 :: a16 :: a17 :: a18 :: a19 :: a20 :: a21 :: a22 :: a23 :: a24 :: a25 :: a26 :: a27 :: a28 :: a29 :: a30 :: a31 :: Sl.val d :: ρ) := rfl
theorem ev_q32 : uPer 32 (a0 :: a1 :: a2 :: a3 :: a4 :: a5 :: a6 :: a7 :: a8 :: a9 :: a10 :: a11 :: a12 :: a13 :: a14 :: a15 :: a16 :: a17 :: a18 :: a19 :: a20 :: a21 :: a22 :: a23 :: a24 :: a25 :: a26 :: a27 :: a28 :: a29 :: a30 :: a31 :: Sl.own l :: ρ) Q = Q (.lst l) (a0 :: a1 :: a2 :: a3 :: a4 :: a5 :: a6 :: a7 :: a8 :: a9 :: a10 :: a11 :: a12 :: a13 :: a14 :: a15 :: a16 :: a17 :: a18 :: a19 :: a20 :: a21 :: a22 :: a23 :: a24 :: a25 :: a26 :: a27 :: a28 :: a29 :: a30 :: a31 :: Sl.val (.lst l) :: ρ) := rfl
theorem ev_v33 : uVar 33 (a0 :: a1 :: a2 :: a3 :: a4 :: a5 :: a6 :: a7 :: a8 :: a9 :: a10 :: a11 :: a12 :: a13 :: a14 :: a15 :: a16 :: a17 :: a18 :: a19 :: a20 :: a21 :: a22 :: a23 :: a24 :: a25 :: a26 :: a27 :: a28 :: a29 :: a30 :: a31 :: a32 :: Sl.val d :: ρ) Q = Q d (a0 :: a1 :: a2 :: a3 :: a4 :: a5 :: a6 :: a7 :: a8 :: a9 :: a10 :: a11 :: a12 :: a13 :: a14 :: a15 :: a16 :: a17 :: a18 :: a19 :: a20 :: a21 :: a22 :: a23 :: a24 :: a25 :: a26 :: a27 :: a28 :: a29 :: a30 :: a31 :: a32 :: Sl.val d :: ρ) := rfl
theorem ev_o33 : uVar 33 (a0 :: a1 :: a2 :: a3 :: a4 :: a5 :: a6 :: a7 :: a8 :: a9 :: a10 :: a11 :: a12 :: a13 :: a14 :: a15 :: a16 :: a17 :: a18 :: a19 :: a20 :: a21 :: a22 :: a23 :: a24 :: a25 :: a26 :: a27 :: a28 :: a29 :: a30 :: a31 :: a32 :: Sl.own l :: ρ) Q = Q (.lst l) (a0 :: a1 :: a2 :: a3 :: a4 :: a5 :: a6 :: a7 :: a8 :: a9 :: a10 :: a11 :: a12 :: a13 :: a14 :: a15 :: a16 :: a17 :: a18 :: a19 :: a20 :: a21 :: a22 :: a23 :: a24 :: a25 :: a26 :: a27 :: a28 :: a29 :: a30 :: a31 :: a32 :: Sl.own l :: ρ) := rfl
theorem ev_p33 : uPer 33 (a0 :: a1 :: a2 :: a3 :: a4 :: a5 :: a6 :: a7 :: a8 :: a9 :: a10 :: a11 :: a12 :: a13 :: a14 :: a15 :: a16 :: a17 :: a18 :: a19 :: a20 :: a21 :: a22 :: a23 :: a24 :: a25 :: a26 :: a27 :: a28 :: a29 :: a30 :: a31 :: a32 :: Sl.val d :: ρ) Q = Q d (a0 :: a1 :: a2 :: a3 :: a4 :: a5 :: a6 :: a7 :: a8 :: a9 :: a10 :: a11 :: a12 :: a13 :: a14 :: a15 :: a16 :: a17 :: a18 :: a19 :: a20 :: a21 :: a22 :: a23 :: a24 :: a25 :: a26 :: a27 :: a28 :: a29 :: a30 :: a31 :: a32 :: Sl.val d :: ρ) := rfl
theorem ev_q33 : uPer 33 (a0 :: a1 :: a2 :: a3 :: a4 :: a5 :: a6 :: a7 :: a8 :: a9 :: a10 :: a11 :: a12 :: a13 :: a14 :: a15 :: a16 :: a17 :: a18 :: a19 :: a20 :: a21 :: a22 :: a23 :: a24 :: a25 :: a26 :: a27 :: a28 :: a29 :: a30 :: a31 :: a32 :: Sl.own l :: ρ) Q = Q (.lst l) (a0 :: a1 :: a2 :: a3 :: a4 :: a5 :: a6 :: a7 :: a8 :: a9 :: a10 :: a11 :: a12 :: a13 :: a14 :: a15 :: a16 :: a17 :: a18 :: a19 :: a20 :: a21 :: a22 :: a23 :: a24 :: a25 :: a26 :: a27 :: a28 :: a29 :: a30 :: a31 :: a32 :: Sl.val (.lst l) :: ρ) := rfl
end
end TkL

local macro_rules | `(tactic| walk_at "ew") => `(tactic| simp only [TkL.LCT, TkL.wipeU, TkL.e_lc, TkL.e_for, TkL.e_seq, TkL.e_next, TkL.e_break, TkL.e_cont, TkL.e_asg, TkL.e_name, TkL.e_asgO, TkL.e_par, TkL.e_par3, TkL.e_par_vo, TkL.e_drop, TkL.e_ret, TkL.e_retN, TkL.e_ifS, TkL.e_c, TkL.e_op, TkL.e_un, TkL.e_nil, TkL.e_cons, TkL.e_cb, TkL.e_if, TkL.e_andV, TkL.e_orV, TkL.e_notV, TkL.e_B, TkL.e_and, TkL.e_or, TkL.e_not, TkL.e_yes, TkL.e_chain, TkL.e_tup, TkL.e_lst, TkL.e_def, TkL.e_row, TkL.e_prp, TkL.e_cm, TkL.e_tru, TkL.e_notT, TkL.e_truO, TkL.e_mrk, TkL.e_part, TkL.e_noPart, TkL.e_slL, TkL.e_slT, TkL.e_bms, TkL.e_gtup, TkL.e_gunl, TkL.e_gnil, TkL.e_gcons, TkL.e_app, TkL.e_irng1, TkL.e_irng2, TkL.e_il, TkL.e_it, TkL.e_qI, TkL.e_qI0, TkL.e_exB, TkL.e_exR, TkL.e_qUpR, TkL.e_qUpI, TkL.e_qUpN, TkL.e_qEqI, TkL.e_qNeI, TkL.e_qEqB, TkL.e_qNeB, TkL.e_qEqS, TkL.e_qNeS, TkL.e_qCat, TkL.e_qCatA, TkL.e_qIxL, TkL.e_qIxT, TkL.e_len, TkL.e_lenT, TkL.e_int, TkL.e_intB, TkL.e_tuple, TkL.e_list, TkL.e_listL, TkL.e_sum, TkL.e_sumT, TkL.e_max2, TkL.e_min2, TkL.e_qMrk, TkL.e_qMrkN, TkL.e_qInT, TkL.e_qInL, TkL.e_eqL, TkL.e_neL, TkL.e_eqT, TkL.e_neT, TkL.e_eqL0, TkL.e_neL0, TkL.e_eqT0, TkL.e_neT0, TkL.e_eqLB, TkL.e_neLB, TkL.e_notO, TkL.e_dict, TkL.e_neg, TkL.ex_at0, TkL.ex_at1, TkL.ex_at2, TkL.iL_app, TkL.iL_cut, TkL.iL_len, List.getElem?_cons_zero, List.getElem?_cons_succ, List.set_cons_zero, List.set_cons_succ, List.length_cons, List.length_nil, Nat.zero_add, Nat.reduceAdd, Nat.reduceLeDiff, true_and, and_true, if_true, if_false, Bool.false_eq_true, ite_true, ite_false, reduceIte, Bool.not_true, Bool.not_false, decide_true, decide_false, Bool.true_eq_false, reduceCtorEq, TkL.ev_v0, TkL.ev_o0, TkL.ev_p0, TkL.ev_q0, TkL.ev_v1, TkL.ev_o1, TkL.ev_p1, TkL.ev_q1, TkL.ev_v2, TkL.ev_o2, TkL.ev_p2, TkL.ev_q2, TkL.ev_v3, TkL.ev_o3, TkL.ev_p3, TkL.ev_q3, TkL.ev_v4, TkL.ev_o4, TkL.ev_p4, TkL.ev_q4, TkL.ev_v5, TkL.ev_o5, TkL.ev_p5, TkL.ev_q5, TkL.ev_v6, TkL.ev_o6, TkL.ev_p6, TkL.ev_q6, TkL.ev_v7, TkL.ev_o7, TkL.ev_p7, TkL.ev_q7, TkL.ev_v8, TkL.ev_o8, TkL.ev_p8, TkL.ev_q8, TkL.ev_v9, TkL.ev_o9, TkL.ev_p9, TkL.ev_q9, TkL.ev_v10, TkL.ev_o10, TkL.ev_p10, TkL.ev_q10, TkL.ev_v11, TkL.ev_o11, TkL.ev_p11, TkL.ev_q11, TkL.ev_v12, TkL.ev_o12, TkL.ev_p12, TkL.ev_q12, TkL.ev_v13, TkL.ev_o13, TkL.ev_p13, TkL.ev_q13, TkL.ev_v14, TkL.ev_o14, TkL.ev_p14, TkL.ev_q14, TkL.ev_v15, TkL.ev_o15, TkL.ev_p15, TkL.ev_q15, TkL.ev_v16, TkL.ev_o16, TkL.ev_p16, TkL.ev_q16, TkL.ev_v17, TkL.ev_o17, TkL.ev_p17, TkL.ev_q17, TkL.ev_v18, TkL.ev_o18, TkL.ev_p18, TkL.ev_q18, TkL.ev_v19, TkL.ev_o19, TkL.ev_p19, TkL.ev_q19, TkL.ev_v20, TkL.ev_o20, TkL.ev_p20, TkL.ev_q20, TkL.ev_v21, TkL.ev_o21, TkL.ev_p21, TkL.ev_q21, TkL.ev_v22, TkL.ev_o22, TkL.ev_p22, TkL.ev_q22, TkL.ev_v23, TkL.ev_o23, TkL.ev_p23, TkL.ev_q23, TkL.ev_v24, TkL.ev_o24, TkL.ev_p24, TkL.ev_q24, TkL.ev_v25, TkL.ev_o25, TkL.ev_p25, TkL.ev_q25, TkL.ev_v26, TkL.ev_o26, TkL.ev_p26, TkL.ev_q26, TkL.ev_v27, TkL.ev_o27, TkL.ev_p27, TkL.ev_q27, TkL.ev_v28, TkL.ev_o28, TkL.ev_p28, TkL.ev_q28, TkL.ev_v29, TkL.ev_o29, TkL.ev_p29, TkL.ev_q29, TkL.ev_v30, TkL.ev_o30, TkL.ev_p30, TkL.ev_q30, TkL.ev_v31, TkL.ev_o31, TkL.ev_p31, TkL.ev_q31, TkL.ev_v32, TkL.ev_o32, TkL.ev_p32, TkL.ev_q32, TkL.ev_v33, TkL.ev_o33, TkL.ev_p33, TkL.ev_q33])

namespace TkL
open PySem PySem.Spec PySem.Calls PyProof.Rows L2 Tk
structure VB where
  ts : List Int
  b : Int
  l : Int
def VB.d (v : VB) : D := .tup [.lst (iL v.ts), .int v.b, .int v.l]
def VB.at (v : VB) (t : Int) : Int := if t < v.b then t else v.b + (t - v.b) % v.l
def VB.has (v : VB) (t : Int) : Bool := decide (v.at t ∈ v.ts)
structure VOk (v : VB) : Prop where
  s : v.ts.Pairwise (· < ·)
  r : ∀ x ∈ v.ts, 0 ≤ x ∧ x < v.b + v.l
  b0 : 0 ≤ v.b
  l1 : 1 ≤ v.l
  bb : v.b ≤ 100000
  lb : v.l ≤ 400000
def planV (s : Int) (fs ls : List Int) : VB := ⟨(tks s (fs ++ ls)).dropLast, s + fs.sum, ls.sum⟩
def upValue : UP := fun ds P => ∃ s fs ls, ds = [.tup [.int s, .tup (iL fs), .tup (iL ls)]] ∧ fs.length ≤ 1000 ∧ ls.length ≤ 1000 ∧ ls ≠ [] ∧ P (planV s fs ls).d
def upAt : UP := fun ds P => ∃ v t, ds = [VB.d v, .int t] ∧ 1 ≤ v.l ∧ v.l ≤ 400000 ∧ P (.int (v.at t))
def upHas : UP := fun ds P => ∃ v t, ds = [VB.d v, .int t] ∧ 1 ≤ v.l ∧ v.l ≤ 400000 ∧ P (.bl (v.has t))
def upSame : UP := fun ds P => ∃ v t z, ds = [VB.d v, .mrk v.ts, .int t, .int z] ∧ 1 ≤ v.l ∧ v.l ≤ 400000 ∧ P (.bl (decide (v.has t = v.has (t + z))))
def normD (r : RV) : D := .tup [.tup (iL r.early), .int r.beg, .int r.len, .tup (iL r.offs)]
def upLawNormal : UP := fun ds P => ∃ v, ds = [VB.d v] ∧ VOk v ∧ (∃ r, RB r ∧ ∀ t, r.has t = v.has t) ∧ ∀ r, RB r → (∀ t, r.has t = v.has t) → P (normD r)
def upLawText : UP := fun ds P => ∃ v, ds = [VB.d v] ∧ VOk v ∧ (∃ r, RB r ∧ ∀ t, r.has t = v.has t) ∧ ∀ r, RB r → (∀ t, r.has t = v.has t) → P (.str (rowText r))
def fixV (r : RV) : VB := ⟨r.early ++ r.offs.map (r.beg + ·), r.beg, r.len⟩
def upFixed : UP := fun ds P => ∃ v, ds = [VB.d v] ∧ VOk v ∧ (∃ r, RB r ∧ ∀ t, r.has t = v.has t) ∧ ∀ r, RB r → (∀ t, r.has t = v.has t) → P (fixV r).d
structure ShortV (v : VB) : Prop where
  ok : VOk v
  bb : v.b ≤ 200
  lb : v.l ≤ 10
  ne : v.ts ≠ []
def upShort : UP := fun ds P => ds = [.src] ∧ ∀ v, ShortV v → P (VB.d v)
def upThree : UP := fun ds P => ds = [.src] ∧ ∀ v1 v2 v3 r1 r2 r3, ShortV v1 → ShortV v2 → ShortV v3 → RB r1 → RB r2 → RB r3 → (∀ t, r1.has t = v1.has t) → (∀ t, r2.has t = v2.has t) → (∀ t, r3.has t = v3.has t) → P (.tup [.lst [.row r1, .row r2, .row r3], .lst [VB.d v1, VB.d v2, VB.d v3]])
def upLawRow : UP := fun ds P => ∃ s fs ls, ds = [.tup [.int s, .tup (iL fs), .tup (iL ls)]] ∧ 0 ≤ s ∧ (∀ x ∈ fs, 1 ≤ x) ∧ (∀ x ∈ ls, 1 ≤ x) ∧ fs.length ≤ 1000 ∧ ls.length ≤ 1000 ∧ ls ≠ [] ∧ s + fs.sum ≤ 100000 ∧ ls.sum ≤ 20000 ∧ ∀ q, RB q → (∀ t, q.has t = planHas s fs ls t) → P (.row q)
end TkL



namespace TkL
open PySem PySem.Spec PySem.Calls PyProof.Rows L2 Tk
section
variable (K : PySem.W.Frag) (C : Addr)
def tULrow : TS := (tSeq (tAsg (tPer 0) (gTup K 3 (gCons (gName 1) (gCons (gName 2) (gCons (gName 3) gNil)))))
    (tRet (ClX.tCMeth C (spU K C upParse) E0 (tC (.ref C)) (tCons (tBM K "str" (mJoin K) (tC (.str " ")) (tCons (tOp rCat (tOp rCat (tLc (iTup K (tOp (rCatA K) (tTup (tCons (tPer 1) tNil)) (tVar 2))) (gName 5) tYes (tCB kStr (tCons (tVar 5) tNil)) [5]) (tLst (tCons (tC (.str "|")) tNil))) (tLc (iTup K (tPer 3)) (gName 4) tYes (tCB kStr (tCons (tVar 4) tNil)) [4])) tNil)) tNil))))
def tULvalue : TS := (tSeq (tAsg (tPer 0) (gTup K 3 (gCons (gName 1) (gCons (gName 2) (gCons (gName 3) gNil)))))
    (tSeq (tAsg (tLst (tCons (tPer 1) tNil)) (gName 4))
    (tSeq (tFor (iTup K (tOp (rCatA K) (tVar 2) (tVar 3))) (gName 5) (tDrop (tBM K "list" rAppend (tVar 4) (tCons (tOp (rI0 fun i j => V.int (i + j)) (tOp (rIxL K) (tVar 4) (tUn (rU fun i => V.int (-i)) (tC (.int 1)))) (tVar 5)) tNil))))
    (tRet (tTup (tCons (L2.tSl (rSlL K) (tVar 4) tNoPart (tPart (tUn (rU fun i => V.int (-i)) (tC (.int 1))))) (tCons (tOp (rI0 fun i j => V.int (i + j)) (tVar 1) (tCB (rSumT K) (tCons (tVar 2) tNil))) (tCons (tCB (rSumT K) (tCons (tVar 3) tNil)) tNil))))))))
def tULat : TS := (tRet (tIf (tTest (tOp (rI0 fun i j => V.bl (decide (i < j))) (tVar 1) (tOp (rIxT K) (tVar 0) (tC (.int 1))))) (tPer 1) (tOp (rI0 fun i j => V.int (i + j)) (tOp (rIxT K) (tVar 0) (tC (.int 1))) (tOp (rI (fun _ j => 0 < j) fun i j => V.int (i % j)) (tOp (rI0 fun i j => V.int (i - j)) (tVar 1) (tOp (rIxT K) (tVar 0) (tC (.int 1)))) (tOp (rIxT K) (tVar 0) (tC (.int 2)))))))
def tULsame : TS := (tRet (tOp rEq (tDIn (tDef (spU K C upAt) E0 (tCons (tPer 0) (tCons (tPer 2) tNil))) (tVar 1)) (tDIn (tDef (spU K C upAt) E0 (tCons (tPer 0) (tCons (tOp (rI0 fun i j => V.int (i + j)) (tVar 2) (tVar 3)) tNil))) (tVar 1))))
def tULnormal : TS := (tSeq (tAsg (tPer 0) (gTup K 3 (gCons (gName 1) (gCons (gName 2) (gCons (gName 3) gNil)))))
    (tSeq (tAsg (tTup (tCons (tLc (iList K (tPer 1)) (gName 9) (tTest (tOp (rI0 fun i j => V.bl (decide (j ≤ i))) (tVar 9) (tVar 2))) (tOp (rI0 fun i j => V.int (i - j)) (tVar 9) (tVar 2)) [9]) (tCons (tCB (kDict K) (tCons (tLc (iList K (tPer 1)) (gName 9) tYes (tTup (tCons (tPer 9) (tCons (tC (.bl true)) tNil))) [9]) tNil)) tNil))) (gTup K 2 (gCons (gName 4) (gCons (gName 5) gNil))))
    (tSeq (tIfS (tTest (tOp (rEqD K) (tVar 4) (tLst tNil))) (tRet (tTup (tCons (tCB (kTuple K) (tCons (tVar 1) tNil)) (tCons (tIf (tTest (tOp (rNeD K) (tVar 1) (tLst tNil))) (tOp (rI0 fun i j => V.int (i + j)) (tOp (rIxL K) (tVar 1) (tUn (rU fun i => V.int (-i)) (tC (.int 1)))) (tC (.int 1))) (tC (.int 0))) (tCons (tC (.int 1)) (tCons (tTup tNil) tNil)))))) tNext)
    (tSeq (tAsg (tTup (tCons (tCB (kDict K) (tCons (tLc (iList K (tPer 4)) (gName 10) tYes (tTup (tCons (tPer 10) (tCons (tC (.bl true)) tNil))) [10]) tNil)) (tCons (tC (.int 1)) tNil))) (gTup K 2 (gCons (gName 6) (gCons (gName 7) gNil))))
    (tSeq (tWhile (tOr (tTest (tOp (rI0 fun i j => V.bl (decide (j < i))) (tOp (rI (fun _ j => 0 < j) fun i j => V.int (i % j)) (tVar 3) (tVar 7)) (tC (.int 0)))) (tTest (tOp (rNeD K) (tLc (iList K (tPer 4)) (gName 10) (tB (tDNotIn (tOp (rI (fun _ j => 0 < j) fun i j => V.int (i % j)) (tOp (rI0 fun i j => V.int (i + j)) (tVar 10) (tVar 7)) (tVar 3)) (tVar 6))) (tPer 10) [10]) (tLst tNil)))) (tAsg (tOp (rI0 fun i j => V.int (i + j)) (tVar 7) (tC (.int 1))) (gName 7)))
    (tSeq (tWhile (tAnd (tTest (tOp (rI0 fun i j => V.bl (decide (j < i))) (tVar 2) (tC (.int 0)))) (tB (tDef (spU K C upSame) E0 (tCons (tPer 0) (tCons (tPer 5) (tCons (tOp (rI0 fun i j => V.int (i - j)) (tVar 2) (tC (.int 1))) (tCons (tPer 7) tNil))))))) (tAsg (tOp (rI0 fun i j => V.int (i - j)) (tVar 2) (tC (.int 1))) (gName 2)))
    (tSeq (tAsg (tLc (iRng1 (tCons (tVar 7) tNil)) (gName 9) (tB (tDIn (tDef (spU K C upAt) E0 (tCons (tPer 0) (tCons (tOp (rI0 fun i j => V.int (i + j)) (tVar 2) (tVar 9)) tNil))) (tVar 5))) (tPer 9) [9]) (gName 8))
    (tRet (tTup (tCons (tCB (kTuple K) (tCons (tLc (iList K (tPer 1)) (gName 9) (tTest (tOp (rI0 fun i j => V.bl (decide (i < j))) (tVar 9) (tVar 2))) (tPer 9) [9]) tNil)) (tCons (tPer 2) (tCons (tPer 7) (tCons (tCB (kTuple K) (tCons (tVar 8) tNil)) tNil)))))))))))))
def tULtext : TS := (tSeq (tAsg (tDef (spU K C upLawNormal) E0 (tCons (tPer 0) tNil)) (gTup K 4 (gCons (gName 1) (gCons (gName 2) (gCons (gName 3) (gCons (gName 4) gNil))))))
    (tSeq (tAsg (tOp rCat (tCB (kList K) (tCons (tVar 1) tNil)) (tLc (iTup K (L2.tSl (rSlA K) (tVar 4) tNoPart (tPart (tC (.int 1))))) (gName 8) tYes (tOp (rI0 fun i j => V.int (i + j)) (tVar 2) (tVar 8)) [8])) (gName 5))
    (tSeq (tIfS (tTest (tOp (rEqD K) (tVar 5) (tLst tNil))) (tRet (tC (.str "never"))) tNext)
    (tSeq (tAsg (tOp rCat (tLst (tCons (tCB kStr (tCons (tOp (rIxL K) (tVar 5) (tC (.int 0))) tNil)) tNil)) (tLc (iRng1 (tCons (tOp (rI0 fun i j => V.int (i - j)) (tCB (kLen K) (tCons (tVar 5) tNil)) (tC (.int 1))) tNil)) (gName 9) tYes (tCB kStr (tCons (tOp (rI0 fun i j => V.int (i - j)) (tOp (rIxL K) (tVar 5) (tOp (rI0 fun i j => V.int (i + j)) (tVar 9) (tC (.int 1)))) (tOp (rIxL K) (tVar 5) (tVar 9))) tNil)) [9])) (gName 6))
    (tSeq (tIfS (tTest (tOp (rEqD K) (tVar 4) (tTup tNil))) (tRet (tBM K "str" (mJoin K) (tC (.str " ")) (tCons (tVar 6) tNil))) tNext)
    (tSeq (tAsg (tOp rCat (tCB (kList K) (tCons (L2.tSl (rSlA K) (tVar 4) (tPart (tC (.int 1))) tNoPart) tNil)) (tLst (tCons (tOp (rI0 fun i j => V.int (i + j)) (tOp (rIxT K) (tVar 4) (tC (.int 0))) (tVar 3)) tNil))) (gName 7))
    (tRet (tBM K "str" (mJoin K) (tC (.str " ")) (tCons (tOp rCat (tOp rCat (tVar 6) (tLst (tCons (tC (.str "|")) tNil))) (tLc (iRng1 (tCons (tCB (kLen K) (tCons (tVar 4) tNil)) tNil)) (gName 9) tYes (tCB kStr (tCons (tOp (rI0 fun i j => V.int (i - j)) (tOp (rIxL K) (tVar 7) (tVar 9)) (tOp (rIxT K) (tVar 4) (tVar 9))) tNil)) [9])) tNil)))))))))
def tULhas : TS := (tRet (tOp (rIn K false) (tDef (spU K C upAt) E0 (tCons (tPer 0) (tCons (tPer 1) tNil))) (tOp (rIxT K) (tVar 0) (tC (.int 0)))))
def tULfixed : TS := (tSeq (tAsg (tDef (spU K C upLawNormal) E0 (tCons (tPer 0) tNil)) (gTup K 4 (gCons (gName 1) (gCons (gName 2) (gCons (gName 3) (gCons (gName 4) gNil))))))
    (tRet (tTup (tCons (tOp rCat (tCB (kList K) (tCons (tVar 1) tNil)) (tLc (iTup K (tPer 4)) (gName 5) tYes (tOp (rI0 fun i j => V.int (i + j)) (tVar 2) (tVar 5)) [5])) (tCons (tPer 2) (tCons (tPer 3) tNil))))))
def tULshort : TS := (tSeq (tAsg (tCB (kTuple K) (tCons (tLc (iRng1 (tCons (tOp (rI0 fun i j => V.int (i + j)) (tC (.int 1)) (tDef (spU K C upBelow) E0 (tCons (tPer 0) (tCons (tC (.int 2)) tNil)))) tNil)) (gName 4) tYes (tOp (rI0 fun i j => V.int (i + j)) (tC (.int 1)) (tDef (spU K C upBelow) E0 (tCons (tPer 0) (tCons (tC (.int 5)) tNil)))) [4]) tNil)) (gName 1))
    (tSeq (tAsg (tDef (spU K C upFixed) E0 (tCons (tDef (spU K C upValue) E0 (tCons (tTup (tCons (tDef (spU K C upBelow) E0 (tCons (tPer 0) (tCons (tC (.int 20)) tNil))) (tCons (L2.tSl (rSlA K) (tDef (spU K C upLaps) E0 (tCons (tPer 0) (tCons (tC (.int 2)) tNil))) tNoPart (tPart (tDef (spU K C upBelow) E0 (tCons (tPer 0) (tCons (tC (.int 2)) tNil))))) (tCons (tPer 1) tNil)))) tNil)) tNil)) (gName 2))
    (tSeq (tIfS (tTest (tOp (rI0 fun i j => V.bl (decide (j < i))) (tDef (spU K C upBelow) E0 (tCons (tPer 0) (tCons (tC (.int 6)) tNil))) (tC (.int 0)))) (tRet (tPer 2)) tNext)
    (tSeq (tAsg (L2.tSl (rSlL K) (tOp (rIxT K) (tVar 2) (tC (.int 0))) tNoPart (tPart (tOp (rI0 fun i j => V.int (i + j)) (tC (.int 1)) (tDef (spU K C upBelow) E0 (tCons (tPer 0) (tCons (tC (.int 3)) tNil)))))) (gName 3))
    (tRet (tTup (tCons (tPer 3) (tCons (tOp (rI0 fun i j => V.int (i + j)) (tOp (rIxL K) (tVar 3) (tUn (rU fun i => V.int (-i)) (tC (.int 1)))) (tC (.int 1))) (tCons (tC (.int 1)) tNil)))))))))
def tULthree : TS := (tSeq (tAsg (tLc (iRng1 (tCons (tC (.int 3)) tNil)) (gName 2) tYes (tDef (spU K C upShort) E0 (tCons (tPer 0) tNil)) [2]) (gName 1))
    (tRet (tTup (tCons (tLc (iList K (tPer 1)) (gName 3) tYes (ClX.tCMeth C (spU K C upParse) E0 (tC (.ref C)) (tCons (tDef (spU K C upLawText) E0 (tCons (tPer 3) tNil)) tNil)) [3]) (tCons (tPer 1) tNil)))))
end
def uLrow : US := (uSeq (uAsg (uPer 0) (uGTup 3 (uGCons (uName 1) (uGCons (uName 2) (uGCons (uName 3) uGNil)))))
    (uRet (uCM upParse (uC .cls) (uCons (uBMS gJoin (uC (.str " ")) (uCons (uOp qCat (uOp qCat (uLc (uIT (uOp qCatA (uTup (uCons (uPer 1) uNil)) (uVar 2))) (uName 5) uYes (uCB gStr (uCons (uVar 5) uNil)) [5]) (uLst (uCons (uC (.str "|")) uNil))) (uLc (uIT (uPer 3)) (uName 4) uYes (uCB gStr (uCons (uVar 4) uNil)) [4])) uNil)) uNil))))
theorem simLrow {K : PySem.W.Frag} {C : Addr} (B : Bs) (hK : B.K = K) (hC : B.C = C) : SimS B (tULrow K C) uLrow := by
  subst hK hC
  exact (sS_seq (sS_asg sE_per (sG_tup (sGs_cons sG_name (sGs_cons sG_name (sGs_cons sG_name sGs_nil)))))
    (sS_ret (sE_cm (SimE.w sE_cls) (sP_cons (sE_join (SimE.w sE_str) (sA_cons (SimE.w (SimN.e (sN_op s2_Cat (SimE.w (SimN.e (sN_op s2_Cat (SimE.w (SimN.e (sN_lc (sI_tup (sE_op s2_CatA (SimE.w (sE_tup (sP_cons sE_per sP_nil))) sW_var)) ktw_name sT_yes (sE_cb sk_str (sA_cons sW_var sA_nil))))) (SimE.w (SimN.e (sN_lst (sP_cons sE_str sP_nil))))))) (SimE.w (SimN.e (sN_lc (sI_tup sE_per) ktw_name sT_yes (sE_cb sk_str (sA_cons sW_var sA_nil)))))))) sA_nil)) sP_nil))))
def uLvalue : US := (uSeq (uAsg (uPer 0) (uGTup 3 (uGCons (uName 1) (uGCons (uName 2) (uGCons (uName 3) uGNil)))))
    (uSeq (uAsgO (uLst (uCons (uPer 1) uNil)) 4)
    (uSeq (uFor (uIT (uOp qCatA (uVar 2) (uVar 3))) (uName 5) (uApp 4 (uOp (qI0 fun i j => D.int (i + j)) (uOp qIxL (uVar 4) (uUn qNeg (uC (.int 1)))) (uVar 5))))
    (uRet (uTup (uCons (uSlL (uVar 4) uNoPart (uPart (uUn qNeg (uC (.int 1))))) (uCons (uOp (qI0 fun i j => D.int (i + j)) (uVar 1) (uCB gSumT (uCons (uVar 2) uNil))) (uCons (uCB gSumT (uCons (uVar 3) uNil)) uNil))))))))
theorem simLvalue {K : PySem.W.Frag} {C : Addr} (B : Bs) (hK : B.K = K) (hC : B.C = C) : SimS B (tULvalue K) uLvalue := by
  subst hK hC
  exact (sS_seq (sS_asg sE_per (sG_tup (sGs_cons sG_name (sGs_cons sG_name (sGs_cons sG_name sGs_nil)))))
    (sS_seq (sS_asgO (sN_lst (sP_cons sE_per sP_nil)))
    (sS_seq (sS_for (sI_tup (sE_op s2_CatA sW_var sW_var)) sG_name (sS_app (sE_op (s2_I0 (fun _ _ _ => .int)) (SimE.w (sE_op s2_ixL sW_var (SimE.w (sE_un s1_neg (SimE.w sE_int))))) sW_var)))
    (sS_ret (sE_tup (sP_cons (SimN.e (sN_slL sW_var sO_none (sO_some (SimE.w (sE_un s1_neg (SimE.w sE_int)))))) (sP_cons (sE_op (s2_I0 (fun _ _ _ => .int)) sW_var (SimE.w (sE_cb sk_sumT (sA_cons sW_var sA_nil)))) (sP_cons (sE_cb sk_sumT (sA_cons sW_var sA_nil)) sP_nil))))))))
def uLat : US := (uRet (uIf (uB (uOp (qI0 fun i j => D.bl (decide (i < j))) (uVar 1) (uOp qIxT (uVar 0) (uC (.int 1))))) (uPer 1) (uOp (qI0 fun i j => D.int (i + j)) (uOp qIxT (uVar 0) (uC (.int 1))) (uOp (qI (fun _ j => 0 < j) fun i j => D.int (i % j)) (uOp (qI0 fun i j => D.int (i - j)) (uVar 1) (uOp qIxT (uVar 0) (uC (.int 1)))) (uOp qIxT (uVar 0) (uC (.int 2)))))))
theorem simLat {K : PySem.W.Frag} {C : Addr} (B : Bs) (hK : B.K = K) (hC : B.C = C) : SimS B (tULat K) uLat := by
  subst hK hC
  exact (sS_ret (sE_if (sT_test (SimE.w (sE_op (s2_I0 (fun _ _ _ => .bl)) sW_var (SimE.w (sE_op s2_ixT sW_var (SimE.w sE_int)))))) sE_per (sE_op (s2_I0 (fun _ _ _ => .int)) (SimE.w (sE_op s2_ixT sW_var (SimE.w sE_int))) (SimE.w (sE_op (s2_I (fun _ _ _ => .int)) (SimE.w (sE_op (s2_I0 (fun _ _ _ => .int)) sW_var (SimE.w (sE_op s2_ixT sW_var (SimE.w sE_int))))) (SimE.w (sE_op s2_ixT sW_var (SimE.w sE_int))))))))
def uLsame : US := (uRet (uOp qEq (uMrk false (uDef upAt (uCons (uPer 0) (uCons (uPer 2) uNil))) (uVar 1)) (uMrk false (uDef upAt (uCons (uPer 0) (uCons (uOp (qI0 fun i j => D.int (i + j)) (uVar 2) (uVar 3)) uNil))) (uVar 1))))
theorem simLsame {K : PySem.W.Frag} {C : Addr} (B : Bs) (hK : B.K = K) (hC : B.C = C) : SimS B (tULsame K C) uLsame := by
  subst hK hC
  exact (sS_ret (sE_op s2_Eq (SimE.w (sE_din (SimE.w (sE_def (sP_cons sE_per (sP_cons sE_per sP_nil)))) sW_var)) (SimE.w (sE_din (SimE.w (sE_def (sP_cons sE_per (sP_cons (sE_op (s2_I0 (fun _ _ _ => .int)) sW_var sW_var) sP_nil)))) sW_var))))
def uLnormal : US := (uSeq (uAsg (uPer 0) (uGTup 3 (uGCons (uName 1) (uGCons (uName 2) (uGCons (uName 3) uGNil)))))
    (uSeq (uAsg (uTup (uCons (uLc (uIL (uPer 1)) (uName 9) (uB (uOp (qI0 fun i j => D.bl (decide (j ≤ i))) (uVar 9) (uVar 2))) (uOp (qI0 fun i j => D.int (i - j)) (uVar 9) (uVar 2)) [9]) (uCons (uCB gDict (uCons (uLc (uIL (uPer 1)) (uName 9) uYes (uTup (uCons (uPer 9) (uCons (uC (.bl true)) uNil))) [9]) uNil)) uNil))) (uGTup 2 (uGCons (uName 4) (uGCons (uName 5) uGNil))))
    (uSeq (uIfS (uB (uOp qEqD (uVar 4) (uLst uNil))) (uRet (uTup (uCons (uCB gTuple (uCons (uVar 1) uNil)) (uCons (uIf (uB (uOp qNeD (uVar 1) (uLst uNil))) (uOp (qI0 fun i j => D.int (i + j)) (uOp qIxL (uVar 1) (uUn qNeg (uC (.int 1)))) (uC (.int 1))) (uC (.int 0))) (uCons (uC (.int 1)) (uCons (uTup uNil) uNil)))))) uNext)
    (uSeq (uAsg (uTup (uCons (uCB gDict (uCons (uLc (uIL (uPer 4)) (uName 10) uYes (uTup (uCons (uPer 10) (uCons (uC (.bl true)) uNil))) [10]) uNil)) (uCons (uC (.int 1)) uNil))) (uGTup 2 (uGCons (uName 6) (uGCons (uName 7) uGNil))))
    (uSeq (uWhile (uOr (uB (uOp (qI0 fun i j => D.bl (decide (j < i))) (uOp (qI (fun _ j => 0 < j) fun i j => D.int (i % j)) (uVar 3) (uVar 7)) (uC (.int 0)))) (uB (uOp qNeD (uLc (uIL (uPer 4)) (uName 10) (uB (uMrk true (uOp (qI (fun _ j => 0 < j) fun i j => D.int (i % j)) (uOp (qI0 fun i j => D.int (i + j)) (uVar 10) (uVar 7)) (uVar 3)) (uVar 6))) (uPer 10) [10]) (uLst uNil)))) (uAsg (uOp (qI0 fun i j => D.int (i + j)) (uVar 7) (uC (.int 1))) (uName 7)))
    (uSeq (uWhile (uAnd (uB (uOp (qI0 fun i j => D.bl (decide (j < i))) (uVar 2) (uC (.int 0)))) (uB (uDef upSame (uCons (uPer 0) (uCons (uPer 5) (uCons (uOp (qI0 fun i j => D.int (i - j)) (uVar 2) (uC (.int 1))) (uCons (uPer 7) uNil))))))) (uAsg (uOp (qI0 fun i j => D.int (i - j)) (uVar 2) (uC (.int 1))) (uName 2)))
    (uSeq (uAsg (uLc (uIRng1 (uCons (uVar 7) uNil)) (uName 9) (uB (uMrk false (uDef upAt (uCons (uPer 0) (uCons (uOp (qI0 fun i j => D.int (i + j)) (uVar 2) (uVar 9)) uNil))) (uVar 5))) (uPer 9) [9]) (uName 8))
    (uRet (uTup (uCons (uCB gTuple (uCons (uLc (uIL (uPer 1)) (uName 9) (uB (uOp (qI0 fun i j => D.bl (decide (i < j))) (uVar 9) (uVar 2))) (uPer 9) [9]) uNil)) (uCons (uPer 2) (uCons (uPer 7) (uCons (uCB gTuple (uCons (uVar 8) uNil)) uNil)))))))))))))
theorem simLnormal {K : PySem.W.Frag} {C : Addr} (B : Bs) (hK : B.K = K) (hC : B.C = C) : SimS B (tULnormal K C) uLnormal := by
  subst hK hC
  exact (sS_seq (sS_asg sE_per (sG_tup (sGs_cons sG_name (sGs_cons sG_name (sGs_cons sG_name sGs_nil)))))
    (sS_seq (sS_asg (sE_tup (sP_cons (SimN.e (sN_lc (sI_list sE_per) ktw_name (sT_test (SimE.w (sE_op (s2_I0 (fun _ _ _ => .bl)) sW_var sW_var))) (sE_op (s2_I0 (fun _ _ _ => .int)) sW_var sW_var))) (sP_cons (sE_cb sk_dict (sA_cons (SimE.w (SimN.e (sN_lc (sI_list sE_per) ktw_name sT_yes (sE_tup (sP_cons sE_per (sP_cons sE_bl sP_nil)))))) sA_nil)) sP_nil))) (sG_tup (sGs_cons sG_name (sGs_cons sG_name sGs_nil))))
    (sS_seq (sS_if (sT_test (SimE.w (sE_op s2_EqD sW_var (SimE.w (SimN.e (sN_lst sP_nil)))))) (sS_ret (sE_tup (sP_cons (sE_cb sk_tuple (sA_cons sW_var sA_nil)) (sP_cons (sE_if (sT_test (SimE.w (sE_op s2_NeD sW_var (SimE.w (SimN.e (sN_lst sP_nil)))))) (sE_op (s2_I0 (fun _ _ _ => .int)) (SimE.w (sE_op s2_ixL sW_var (SimE.w (sE_un s1_neg (SimE.w sE_int))))) (SimE.w sE_int)) sE_int) (sP_cons sE_int (sP_cons (sE_tup sP_nil) sP_nil)))))) sS_next)
    (sS_seq (sS_asg (sE_tup (sP_cons (sE_cb sk_dict (sA_cons (SimE.w (SimN.e (sN_lc (sI_list sE_per) ktw_name sT_yes (sE_tup (sP_cons sE_per (sP_cons sE_bl sP_nil)))))) sA_nil)) (sP_cons sE_int sP_nil))) (sG_tup (sGs_cons sG_name (sGs_cons sG_name sGs_nil))))
    (sS_seq (sS_while (sT_or (sT_test (SimE.w (sE_op (s2_I0 (fun _ _ _ => .bl)) (SimE.w (sE_op (s2_I (fun _ _ _ => .int)) sW_var sW_var)) (SimE.w sE_int)))) (sT_test (SimE.w (sE_op s2_NeD (SimE.w (SimN.e (sN_lc (sI_list sE_per) ktw_name (sT_B (SimE.w (sE_dnotin (SimE.w (sE_op (s2_I (fun _ _ _ => .int)) (SimE.w (sE_op (s2_I0 (fun _ _ _ => .int)) sW_var sW_var)) sW_var)) sW_var))) sE_per))) (SimE.w (SimN.e (sN_lst sP_nil))))))) (sS_asg (sE_op (s2_I0 (fun _ _ _ => .int)) sW_var (SimE.w sE_int)) sG_name))
    (sS_seq (sS_while (sT_and (sT_test (SimE.w (sE_op (s2_I0 (fun _ _ _ => .bl)) sW_var (SimE.w sE_int)))) (sT_B (SimE.w (sE_def (sP_cons sE_per (sP_cons sE_per (sP_cons (sE_op (s2_I0 (fun _ _ _ => .int)) sW_var (SimE.w sE_int)) (sP_cons sE_per sP_nil)))))))) (sS_asg (sE_op (s2_I0 (fun _ _ _ => .int)) sW_var (SimE.w sE_int)) sG_name))
    (sS_seq (sS_asg (SimN.e (sN_lc (sI_rng1 (sA_cons sW_var sA_nil)) ktw_name (sT_B (SimE.w (sE_din (SimE.w (sE_def (sP_cons sE_per (sP_cons (sE_op (s2_I0 (fun _ _ _ => .int)) sW_var sW_var) sP_nil)))) sW_var))) sE_per)) sG_name)
    (sS_ret (sE_tup (sP_cons (sE_cb sk_tuple (sA_cons (SimE.w (SimN.e (sN_lc (sI_list sE_per) ktw_name (sT_test (SimE.w (sE_op (s2_I0 (fun _ _ _ => .bl)) sW_var sW_var))) sE_per))) sA_nil)) (sP_cons sE_per (sP_cons sE_per (sP_cons (sE_cb sk_tuple (sA_cons sW_var sA_nil)) sP_nil)))))))))))))
def uLtext : US := (uSeq (uAsg (uDef upLawNormal (uCons (uPer 0) uNil)) (uGTup 4 (uGCons (uName 1) (uGCons (uName 2) (uGCons (uName 3) (uGCons (uName 4) uGNil))))))
    (uSeq (uAsg (uOp qCat (uCB gList (uCons (uVar 1) uNil)) (uLc (uIT (uSlT (uVar 4) uNoPart (uPart (uC (.int 1))))) (uName 8) uYes (uOp (qI0 fun i j => D.int (i + j)) (uVar 2) (uVar 8)) [8])) (uName 5))
    (uSeq (uIfS (uB (uOp qEqD (uVar 5) (uLst uNil))) (uRet (uC (.str "never"))) uNext)
    (uSeq (uAsg (uOp qCat (uLst (uCons (uCB gStr (uCons (uOp qIxL (uVar 5) (uC (.int 0))) uNil)) uNil)) (uLc (uIRng1 (uCons (uOp (qI0 fun i j => D.int (i - j)) (uCB gLen (uCons (uVar 5) uNil)) (uC (.int 1))) uNil)) (uName 9) uYes (uCB gStr (uCons (uOp (qI0 fun i j => D.int (i - j)) (uOp qIxL (uVar 5) (uOp (qI0 fun i j => D.int (i + j)) (uVar 9) (uC (.int 1)))) (uOp qIxL (uVar 5) (uVar 9))) uNil)) [9])) (uName 6))
    (uSeq (uIfS (uB (uOp qEqD (uVar 4) (uTup uNil))) (uRet (uBMS gJoin (uC (.str " ")) (uCons (uVar 6) uNil))) uNext)
    (uSeq (uAsg (uOp qCat (uCB gList (uCons (uSlT (uVar 4) (uPart (uC (.int 1))) uNoPart) uNil)) (uLst (uCons (uOp (qI0 fun i j => D.int (i + j)) (uOp qIxT (uVar 4) (uC (.int 0))) (uVar 3)) uNil))) (uName 7))
    (uRet (uBMS gJoin (uC (.str " ")) (uCons (uOp qCat (uOp qCat (uVar 6) (uLst (uCons (uC (.str "|")) uNil))) (uLc (uIRng1 (uCons (uCB gLen (uCons (uVar 4) uNil)) uNil)) (uName 9) uYes (uCB gStr (uCons (uOp (qI0 fun i j => D.int (i - j)) (uOp qIxL (uVar 7) (uVar 9)) (uOp qIxT (uVar 4) (uVar 9))) uNil)) [9])) uNil)))))))))
theorem simLtext {K : PySem.W.Frag} {C : Addr} (B : Bs) (hK : B.K = K) (hC : B.C = C) : SimS B (tULtext K C) uLtext := by
  subst hK hC
  exact (sS_seq (sS_asg (sE_def (sP_cons sE_per sP_nil)) (sG_tup (sGs_cons sG_name (sGs_cons sG_name (sGs_cons sG_name (sGs_cons sG_name sGs_nil))))))
    (sS_seq (sS_asg (SimN.e (sN_op s2_Cat (SimE.w (SimN.e (sN_cb sk_list (sA_cons sW_var sA_nil)))) (SimE.w (SimN.e (sN_lc (sI_tup (sE_slT sW_var sO_none (sO_some (SimE.w sE_int)))) ktw_name sT_yes (sE_op (s2_I0 (fun _ _ _ => .int)) sW_var sW_var)))))) sG_name)
    (sS_seq (sS_if (sT_test (SimE.w (sE_op s2_EqD sW_var (SimE.w (SimN.e (sN_lst sP_nil)))))) (sS_ret sE_str) sS_next)
    (sS_seq (sS_asg (SimN.e (sN_op s2_Cat (SimE.w (SimN.e (sN_lst (sP_cons (sE_cb sk_str (sA_cons (SimE.w (sE_op s2_ixL sW_var (SimE.w sE_int))) sA_nil)) sP_nil)))) (SimE.w (SimN.e (sN_lc (sI_rng1 (sA_cons (SimE.w (sE_op (s2_I0 (fun _ _ _ => .int)) (SimE.w (sE_cb sk_len (sA_cons sW_var sA_nil))) (SimE.w sE_int))) sA_nil)) ktw_name sT_yes (sE_cb sk_str (sA_cons (SimE.w (sE_op (s2_I0 (fun _ _ _ => .int)) (SimE.w (sE_op s2_ixL sW_var (SimE.w (sE_op (s2_I0 (fun _ _ _ => .int)) sW_var (SimE.w sE_int))))) (SimE.w (sE_op s2_ixL sW_var sW_var)))) sA_nil))))))) sG_name)
    (sS_seq (sS_if (sT_test (SimE.w (sE_op s2_EqD sW_var (SimE.w (sE_tup sP_nil))))) (sS_ret (sE_join (SimE.w sE_str) (sA_cons sW_var sA_nil))) sS_next)
    (sS_seq (sS_asg (SimN.e (sN_op s2_Cat (SimE.w (SimN.e (sN_cb sk_list (sA_cons (SimE.w (sE_slT sW_var (sO_some (SimE.w sE_int)) sO_none)) sA_nil)))) (SimE.w (SimN.e (sN_lst (sP_cons (sE_op (s2_I0 (fun _ _ _ => .int)) (SimE.w (sE_op s2_ixT sW_var (SimE.w sE_int))) sW_var) sP_nil)))))) sG_name)
    (sS_ret (sE_join (SimE.w sE_str) (sA_cons (SimE.w (SimN.e (sN_op s2_Cat (SimE.w (SimN.e (sN_op s2_Cat sW_var (SimE.w (SimN.e (sN_lst (sP_cons sE_str sP_nil))))))) (SimE.w (SimN.e (sN_lc (sI_rng1 (sA_cons (SimE.w (sE_cb sk_len (sA_cons sW_var sA_nil))) sA_nil)) ktw_name sT_yes (sE_cb sk_str (sA_cons (SimE.w (sE_op (s2_I0 (fun _ _ _ => .int)) (SimE.w (sE_op s2_ixL sW_var sW_var)) (SimE.w (sE_op s2_ixT sW_var sW_var)))) sA_nil)))))))) sA_nil)))))))))
def uLhas : US := (uRet (uOp (qIn false) (uDef upAt (uCons (uPer 0) (uCons (uPer 1) uNil))) (uOp qIxT (uVar 0) (uC (.int 0)))))
theorem simLhas {K : PySem.W.Frag} {C : Addr} (B : Bs) (hK : B.K = K) (hC : B.C = C) : SimS B (tULhas K C) uLhas := by
  subst hK hC
  exact (sS_ret (sE_op s2_In (SimE.w (sE_def (sP_cons sE_per (sP_cons sE_per sP_nil)))) (SimE.w (sE_op s2_ixT sW_var (SimE.w sE_int)))))
def uLfixed : US := (uSeq (uAsg (uDef upLawNormal (uCons (uPer 0) uNil)) (uGTup 4 (uGCons (uName 1) (uGCons (uName 2) (uGCons (uName 3) (uGCons (uName 4) uGNil))))))
    (uRet (uTup (uCons (uOp qCat (uCB gList (uCons (uVar 1) uNil)) (uLc (uIT (uPer 4)) (uName 5) uYes (uOp (qI0 fun i j => D.int (i + j)) (uVar 2) (uVar 5)) [5])) (uCons (uPer 2) (uCons (uPer 3) uNil))))))
theorem simLfixed {K : PySem.W.Frag} {C : Addr} (B : Bs) (hK : B.K = K) (hC : B.C = C) : SimS B (tULfixed K C) uLfixed := by
  subst hK hC
  exact (sS_seq (sS_asg (sE_def (sP_cons sE_per sP_nil)) (sG_tup (sGs_cons sG_name (sGs_cons sG_name (sGs_cons sG_name (sGs_cons sG_name sGs_nil))))))
    (sS_ret (sE_tup (sP_cons (SimN.e (sN_op s2_Cat (SimE.w (SimN.e (sN_cb sk_list (sA_cons sW_var sA_nil)))) (SimE.w (SimN.e (sN_lc (sI_tup sE_per) ktw_name sT_yes (sE_op (s2_I0 (fun _ _ _ => .int)) sW_var sW_var)))))) (sP_cons sE_per (sP_cons sE_per sP_nil))))))
def uLshort : US := (uSeq (uAsg (uCB gTuple (uCons (uLc (uIRng1 (uCons (uOp (qI0 fun i j => D.int (i + j)) (uC (.int 1)) (uDef upBelow (uCons (uPer 0) (uCons (uC (.int 2)) uNil)))) uNil)) (uName 4) uYes (uOp (qI0 fun i j => D.int (i + j)) (uC (.int 1)) (uDef upBelow (uCons (uPer 0) (uCons (uC (.int 5)) uNil)))) [4]) uNil)) (uName 1))
    (uSeq (uAsg (uDef upFixed (uCons (uDef upValue (uCons (uTup (uCons (uDef upBelow (uCons (uPer 0) (uCons (uC (.int 20)) uNil))) (uCons (uSlT (uDef upLaps (uCons (uPer 0) (uCons (uC (.int 2)) uNil))) uNoPart (uPart (uDef upBelow (uCons (uPer 0) (uCons (uC (.int 2)) uNil))))) (uCons (uPer 1) uNil)))) uNil)) uNil)) (uName 2))
    (uSeq (uIfS (uB (uOp (qI0 fun i j => D.bl (decide (j < i))) (uDef upBelow (uCons (uPer 0) (uCons (uC (.int 6)) uNil))) (uC (.int 0)))) (uRet (uPer 2)) uNext)
    (uSeq (uAsg (uSlL (uOp qIxT (uVar 2) (uC (.int 0))) uNoPart (uPart (uOp (qI0 fun i j => D.int (i + j)) (uC (.int 1)) (uDef upBelow (uCons (uPer 0) (uCons (uC (.int 3)) uNil)))))) (uName 3))
    (uRet (uTup (uCons (uPer 3) (uCons (uOp (qI0 fun i j => D.int (i + j)) (uOp qIxL (uVar 3) (uUn qNeg (uC (.int 1)))) (uC (.int 1))) (uCons (uC (.int 1)) uNil)))))))))
theorem simLshort {K : PySem.W.Frag} {C : Addr} (B : Bs) (hK : B.K = K) (hC : B.C = C) : SimS B (tULshort K C) uLshort := by
  subst hK hC
  exact (sS_seq (sS_asg (sE_cb sk_tuple (sA_cons (SimE.w (SimN.e (sN_lc (sI_rng1 (sA_cons (SimE.w (sE_op (s2_I0 (fun _ _ _ => .int)) (SimE.w sE_int) (SimE.w (sE_def (sP_cons sE_per (sP_cons sE_int sP_nil)))))) sA_nil)) ktw_name sT_yes (sE_op (s2_I0 (fun _ _ _ => .int)) (SimE.w sE_int) (SimE.w (sE_def (sP_cons sE_per (sP_cons sE_int sP_nil)))))))) sA_nil)) sG_name)
    (sS_seq (sS_asg (sE_def (sP_cons (sE_def (sP_cons (sE_tup (sP_cons (sE_def (sP_cons sE_per (sP_cons sE_int sP_nil))) (sP_cons (sE_slT (SimE.w (sE_def (sP_cons sE_per (sP_cons sE_int sP_nil)))) sO_none (sO_some (SimE.w (sE_def (sP_cons sE_per (sP_cons sE_int sP_nil)))))) (sP_cons sE_per sP_nil)))) sP_nil)) sP_nil)) sG_name)
    (sS_seq (sS_if (sT_test (SimE.w (sE_op (s2_I0 (fun _ _ _ => .bl)) (SimE.w (sE_def (sP_cons sE_per (sP_cons sE_int sP_nil)))) (SimE.w sE_int)))) (sS_ret sE_per) sS_next)
    (sS_seq (sS_asg (SimN.e (sN_slL (SimE.w (sE_op s2_ixT sW_var (SimE.w sE_int))) sO_none (sO_some (SimE.w (sE_op (s2_I0 (fun _ _ _ => .int)) (SimE.w sE_int) (SimE.w (sE_def (sP_cons sE_per (sP_cons sE_int sP_nil))))))))) sG_name)
    (sS_ret (sE_tup (sP_cons sE_per (sP_cons (sE_op (s2_I0 (fun _ _ _ => .int)) (SimE.w (sE_op s2_ixL sW_var (SimE.w (sE_un s1_neg (SimE.w sE_int))))) (SimE.w sE_int)) (sP_cons sE_int sP_nil)))))))))
def uLthree : US := (uSeq (uAsg (uLc (uIRng1 (uCons (uC (.int 3)) uNil)) (uName 2) uYes (uDef upShort (uCons (uPer 0) uNil)) [2]) (uName 1))
    (uRet (uTup (uCons (uLc (uIL (uPer 1)) (uName 3) uYes (uCM upParse (uC .cls) (uCons (uDef upLawText (uCons (uPer 3) uNil)) uNil)) [3]) (uCons (uPer 1) uNil)))))
theorem simLthree {K : PySem.W.Frag} {C : Addr} (B : Bs) (hK : B.K = K) (hC : B.C = C) : SimS B (tULthree K C) uLthree := by
  subst hK hC
  exact (sS_seq (sS_asg (SimN.e (sN_lc (sI_rng1 (sA_cons (SimE.w sE_int) sA_nil)) ktw_name sT_yes (sE_def (sP_cons sE_per sP_nil)))) sG_name)
    (sS_ret (sE_tup (sP_cons (SimN.e (sN_lc (sI_list sE_per) ktw_name sT_yes (sE_cm (SimE.w sE_cls) (sP_cons (sE_def (sP_cons sE_per sP_nil)) sP_nil)))) (sP_cons sE_per sP_nil)))))
end TkL


namespace TkL
open PySem PySem.Spec PySem.Calls PyProof.Rows L2 Tk
theorem rdUat (ds : List D) (P : D → Prop) (h : upAt ds P) : uLat { nx := fun _ => P .non, rt := P } (startU ["_law_value_here", "_law_tick"] ds) := by
  obtain ⟨v, t, rfl, h0, h1, h⟩ := h
  show uLat _ [.val v.d, .val (.int t)]
  unfold uLat VB.d
  walk_at "ew"
  by_cases c : t < v.b
  · rw [decide_eq_true c, if_pos rfl]
    have e : v.at t = t := if_pos c
    rw [e] at h
    exact h
  · rw [decide_eq_false c, if_neg Bool.false_ne_true]
    have e : v.at t = v.b + (t - v.b) % v.l := if_neg c
    rw [e] at h
    exact ⟨by omega, h⟩
theorem rdUhas (ds : List D) (P : D → Prop) (h : upHas ds P) : uLhas { nx := fun _ => P .non, rt := P } (startU ["_law_value_here", "_law_tick"] ds) := by
  obtain ⟨v, t, rfl, h0, h1, h⟩ := h
  show uLhas _ [.val v.d, .val (.int t)]
  unfold uLhas
  walk_at "ew"
  refine ⟨v, t, rfl, h0, h1, ?_⟩
  unfold VB.d
  walk_at "ew"
  exact h
theorem rdUsame (ds : List D) (P : D → Prop) (h : upSame ds P) : uLsame { nx := fun _ => P .non, rt := P } (startU ["_law_value_here", "_law_known", "_law_tick", "_law_size"] ds) := by
  obtain ⟨v, t, z, rfl, h0, h1, h⟩ := h
  show uLsame _ [.val v.d, .val (.mrk v.ts), .val (.int t), .val (.int z)]
  unfold uLsame
  walk_at "ew"
  refine ⟨v, t, rfl, h0, h1, ?_⟩
  walk_at "ew"
  refine ⟨v, t + z, rfl, h0, h1, ?_⟩
  walk_at "ew"
  exact h
end TkL


namespace TkL
open Tk
def VB.e (v : VB) : List Int := v.ts.filter fun t => decide (t < v.b)
def VB.o (v : VB) : List Int := (v.ts.filter fun t => decide (v.b ≤ t)).map fun t => t - v.b
theorem VB.o_mem {v : VB} {x : Int} : x ∈ v.o ↔ x + v.b ∈ v.ts ∧ 0 ≤ x := by
  unfold VB.o
  rw [List.mem_map]
  constructor
  · rintro ⟨t, ht, rfl⟩
    have := List.mem_filter.mp ht
    have h2 := of_decide_eq_true this.2
    have e : t - v.b + v.b = t := by omega
    exact ⟨by rw [e]; exact this.1, by omega⟩
  · rintro ⟨h, h0⟩
    exact ⟨x + v.b, List.mem_filter.mpr ⟨h, decide_eq_true (by omega)⟩, by omega⟩
theorem VOk.wf {v : VB} (ok : VOk v) : WF v.e v.b v.l v.o := by
  refine ⟨ok.s.sublist List.filter_sublist, fun x hx => ?_, ok.b0, ok.l1, ?_, fun x hx => ?_⟩
  · have := List.mem_filter.mp hx
    exact ⟨(ok.r x this.1).1, of_decide_eq_true this.2⟩
  · unfold VB.o
    rw [List.pairwise_map]
    exact (ok.s.sublist List.filter_sublist).imp fun h => by omega
  · have := VB.o_mem.mp hx
    have := (ok.r _ this.1).2
    omega
theorem VOk.has {v : VB} (ok : VOk v) (t : Int) : v.has t = qhas v.e v.b v.l v.o t := by
  unfold VB.has VB.at
  have l1 := ok.l1
  by_cases c : t < v.b
  · rw [if_pos c, qhas_lo c, Bool.eq_iff_iff, decide_eq_true_iff, decide_eq_true_iff]
    unfold VB.e
    rw [List.mem_filter]
    exact ⟨fun h => ⟨h, decide_eq_true c⟩, fun h => h.1⟩
  · rw [if_neg c, qhas_hi (by omega), Bool.eq_iff_iff, decide_eq_true_iff, decide_eq_true_iff, VB.o_mem, Int.add_comm]
    exact ⟨fun h => ⟨h, Int.emod_nonneg _ (by omega)⟩, fun h => h.1⟩
theorem VOk.neg {v : VB} (ok : VOk v) {t : Int} (h : t < 0) : v.has t = false := by
  rw [ok.has]; exact qhas_neg ok.wf h
theorem VOk.lo {v : VB} (ok : VOk v) {t : Int} (h : t < v.b) : v.has t = decide (t ∈ v.ts) := by
  unfold VB.has VB.at; rw [if_pos h]
section
variable {v : VB} {r : RV} (ok : VOk v) (cr : Canon r) (h : ∀ t, r.has t = v.has t)
include ok cr h
theorem norm_per {n : Int} (s : Shortest v.l v.o n) : Per r.has v.b n := fun t ht => by
  have n1 := s.n1
  rw [h, h, ok.has, ok.has, cyc_hi ok.wf s ht, cyc_hi ok.wf s (by omega)]
  have e : t + n - v.b = (t - v.b) + n := by omega
  rw [e, cyc_per]
theorem norm_len {n : Int} (s : Shortest v.l v.o n) : n = r.len := by
  refine Int.le_antisymm ?_ (cr.ml n v.b s.n1 (norm_per ok cr h s))
  refine shortest_least ok.wf s _ r.len r.beg rfl cr.wf.l1 fun t ht => ?_
  rw [← ok.has, ← ok.has, ← h, ← h]
  exact qhas_per cr.wf.l1 t ht
theorem norm_beg {n : Int} (s : Shortest v.l v.o n) : r.beg ≤ v.b := by
  have e := norm_len ok cr h s
  subst e
  exact cr.mb v.b ok.b0 (norm_per ok cr h s)
theorem norm_step {c : Int} (hc : r.beg ≤ c) (h0 : 0 < c) (e : v.has (c - 1) = v.has (c - 1 + r.len)) : r.beg ≤ c - 1 := by
  refine cr.mb (c - 1) (by omega) fun t ht => ?_
  rcases Int.lt_or_le t c with q | q
  · have : t = c - 1 := by omega
    rw [this, h, h]; exact e
  · exact qhas_per cr.wf.l1 t (by omega)
theorem norm_stop {c : Int} (hc : r.beg ≤ c) (e : ¬ (0 < c ∧ v.has (c - 1) = v.has (c - 1 + r.len))) : c = r.beg := by
  rcases Int.lt_or_le r.beg c with q | q
  · exfalso
    refine e ⟨by have := cr.wf.b0; omega, ?_⟩
    rw [← h, ← h]
    exact qhas_per cr.wf.l1 (c - 1) (by omega)
  · omega
theorem norm_early (hb : r.beg ≤ v.b) : v.ts.filter (fun t => decide (t < r.beg)) = r.early := by
  refine sorted_ext (ok.s.sublist List.filter_sublist) cr.wf.es fun x => ?_
  rw [List.mem_filter, decide_eq_true_iff]
  constructor
  · rintro ⟨h1, h2⟩
    have a := h x
    rw [RV.has_lo h2, ok.lo (by omega), decide_eq_true h1] at a
    exact of_decide_eq_true a
  · intro hx
    have q := cr.wf.er x hx
    have a := h x
    rw [RV.has_lo q.2, ok.lo (by omega), decide_eq_true hx] at a
    exact ⟨of_decide_eq_true a.symm, q.2⟩
theorem norm_offs : ((List.range r.len.toNat).map fun (k : Nat) => (k : Int)).filter (fun t => v.has (r.beg + t)) = r.offs := by
  have l1 := cr.wf.l1
  refine sorted_ext ?_ cr.wf.os fun x => ?_
  · refine List.Pairwise.sublist List.filter_sublist ?_
    rw [List.pairwise_map]
    exact List.pairwise_lt_range.imp fun h => by omega
  · rw [List.mem_filter, List.mem_map]
    constructor
    · rintro ⟨⟨k, hk, rfl⟩, h2⟩
      have hk' := List.mem_range.mp hk
      rw [← h, RV.has_off cr.wf (by omega) (by omega)] at h2
      exact of_decide_eq_true h2
    · intro hx
      have q := cr.wf.ow x hx
      refine ⟨⟨x.toNat, List.mem_range.mpr (by omega), by omega⟩, ?_⟩
      rw [← h, RV.has_off cr.wf q.1 q.2, decide_eq_true hx]
theorem norm_fin (he : v.o = []) : r = ⟨v.ts, if v.ts = [] then 0 else v.ts.getLastD 0 + 1, 1, []⟩ := by
  have lt : ∀ x ∈ v.ts, x < v.b := fun x hx => by
    rcases Int.lt_or_le x v.b with q | q
    · exact q
    · exfalso
      have : x - v.b ∈ v.o := VB.o_mem.mpr ⟨by have e : x - v.b + v.b = x := by omega
                                               rw [e]; exact hx, by omega⟩
      rw [he] at this; cases this
  have lastmem : ∀ hne : v.ts ≠ [], v.ts.getLastD 0 ∈ v.ts ∧ ∀ x ∈ v.ts, x ≤ v.ts.getLastD 0 := fun hne => by
    have e : v.ts.getLastD 0 = v.ts.getLast hne := by rw [List.getLastD_eq_getLast?, List.getLast?_eq_some_getLast hne]; rfl
    rw [e]
    refine ⟨List.getLast_mem hne, fun x hx => ?_⟩
    have sp := List.dropLast_concat_getLast hne
    have p := ok.s
    rw [← sp] at p hx
    rcases List.mem_append.mp hx with q | q
    · have := (List.pairwise_append.mp p).2.2 x q (v.ts.getLast hne) (by simp)
      omega
    · have : x = v.ts.getLast hne := by simpa using q
      omega
  have fc := finite_canon (e := v.ts) (b := if v.ts = [] then 0 else v.ts.getLastD 0 + 1) ok.s (fun x hx => (ok.r x hx).1) (by
    by_cases c : v.ts = []
    · rw [if_pos c]; exact .inl ⟨c, rfl⟩
    · rw [if_neg c]; exact .inr ⟨_, (lastmem c).1, rfl, (lastmem c).2⟩)
  refine cr.ext fc.1 fun t ht => ?_
  rw [fc.2, h, ok.has]
  rcases Int.lt_or_le t v.b with q | q
  · rw [qhas_lo q, Bool.eq_iff_iff, decide_eq_true_iff, decide_eq_true_iff]
    unfold VB.e
    rw [List.mem_filter]
    exact ⟨fun h => h.1, fun h => ⟨h, decide_eq_true q⟩⟩
  · rw [qhas_hi q, he]
    simp only [List.not_mem_nil, decide_false]
    exact (decide_eq_false fun z => by have := lt t z; omega).symm
end
theorem planV_has {s : Int} {fs ls : List Int} (h0 : 0 ≤ s) (hf : ∀ x ∈ fs, 1 ≤ x) (hl : ∀ x ∈ ls, 1 ≤ x) (hn : ls ≠ []) (t : Int) : (planV s fs ls).has t = planHas s fs ls t := by
  have w := plan_wf h0 hf hl hn
  have ts : (planV s fs ls).ts = (tks s fs).dropLast ++ ((tks 0 ls).dropLast.map (· + (s + fs.sum))) := by
    show (tks s (fs ++ ls)).dropLast = _
    have key : ∀ (fs : List Int) (s : Int), tks s (fs ++ ls) = (tks s fs).dropLast ++ (tks 0 ls).map (· + (s + fs.sum)) := fun fs => by
      induction fs with
      | nil => intro s; show tks s ls = [] ++ _; rw [List.nil_append, ← tks_shift]; simp
      | cons a fs ih =>
        intro s
        show s :: tks (s + a) (fs ++ ls) = (s :: tks (s + a) fs).dropLast ++ _
        rw [ih (s + a)]
        have : (s :: tks (s + a) fs).dropLast = s :: (tks (s + a) fs).dropLast := by
          rw [List.dropLast_cons_of_ne_nil tks_ne]
        rw [this, List.sum_cons]
        have e : s + a + fs.sum = s + (a + fs.sum) := by omega
        rw [e]; rfl
    rw [key, List.dropLast_append_of_ne_nil, List.map_dropLast]
    intro z
    rw [List.map_eq_nil_iff] at z
    exact tks_ne z
  unfold VB.has VB.at planHas
  show decide ((if t < s + fs.sum then t else s + fs.sum + (t - (s + fs.sum)) % ls.sum) ∈ (planV s fs ls).ts) = _
  simp only [ts]
  have l1 := w.l1
  by_cases c : t < s + fs.sum
  · rw [if_pos c, qhas_lo c, Bool.eq_iff_iff, decide_eq_true_iff, decide_eq_true_iff, List.mem_append]
    constructor
    · rintro (q | q)
      · exact q
      · obtain ⟨x, hx, e⟩ := List.mem_map.mp q
        have := (w.ow x hx).1
        omega
    · exact .inl
  · rw [if_neg c, qhas_hi (by omega), Bool.eq_iff_iff, decide_eq_true_iff, decide_eq_true_iff, List.mem_append]
    have r0 := Int.emod_nonneg (t - (s + fs.sum)) (show ls.sum ≠ 0 by omega)
    constructor
    · rintro (q | q)
      · have := (w.er _ q).2; omega
      · obtain ⟨x, hx, e⟩ := List.mem_map.mp q
        have : x = (t - (s + fs.sum)) % ls.sum := by omega
        rw [← this]; exact hx
    · intro q
      exact .inr (List.mem_map.mpr ⟨_, q, by omega⟩)
theorem planV_ok {s : Int} {fs ls : List Int} (h0 : 0 ≤ s) (hf : ∀ x ∈ fs, 1 ≤ x) (hl : ∀ x ∈ ls, 1 ≤ x) (hn : ls ≠ []) (hb : s + fs.sum ≤ 100000) (hls : ls.sum ≤ 20000) : VOk (planV s fs ls) := by
  have hfl : ∀ x ∈ fs ++ ls, 1 ≤ x := fun x hx => (List.mem_append.mp hx).elim (hf x) (hl x)
  have fr := tks_front (a := s) (l := fs ++ ls) hfl
  have w := plan_wf h0 hf hl hn
  refine ⟨fr.1, fun x hx => ?_, w.b0, w.l1, hb, by show ls.sum ≤ 400000; omega⟩
  have := fr.2 x hx
  rw [List.sum_append] at this
  show 0 ≤ x ∧ x < s + fs.sum + ls.sum
  omega
theorem fix_ok {r : RV} (rb : RB r) (hb : r.beg ≤ 100000) : VOk (fixV r) ∧ ∀ t, (fixV r).has t = r.has t := by
  have w := rb.c.wf
  have mem : ∀ x, x ∈ (fixV r).ts ↔ x ∈ r.early ∨ x - r.beg ∈ r.offs := fun x => by
    show x ∈ r.early ++ r.offs.map (r.beg + ·) ↔ _
    rw [List.mem_append, List.mem_map]
    constructor
    · rintro (q | ⟨y, hy, e⟩)
      · exact .inl q
      · have : x - r.beg = y := by omega
        exact .inr (by rw [this]; exact hy)
    · rintro (q | q)
      · exact .inl q
      · exact .inr ⟨_, q, by omega⟩
  refine ⟨⟨?_, fun x hx => ?_, w.b0, w.l1, hb, by have := rb.lb; show r.len ≤ 400000; omega⟩, fun t => ?_⟩
  · show (r.early ++ r.offs.map (r.beg + ·)).Pairwise (· < ·)
    rw [List.pairwise_append]
    refine ⟨w.es, ?_, fun x hx y hy => ?_⟩
    · rw [List.pairwise_map]; exact w.os.imp fun h => by omega
    · obtain ⟨z, hz, rfl⟩ := List.mem_map.mp hy
      have := (w.er x hx).2
      have := (w.ow z hz).1
      omega
  · show 0 ≤ x ∧ x < r.beg + r.len
    rcases (mem x).mp hx with q | q
    · have := w.er x q; have := w.l1; omega
    · have := w.ow _ q; have := w.b0; omega
  · have l1 := w.l1
    show decide ((if t < r.beg then t else r.beg + (t - r.beg) % r.len) ∈ (fixV r).ts) = r.has t
    by_cases c : t < r.beg
    · rw [if_pos c, RV.has_lo c, Bool.eq_iff_iff, decide_eq_true_iff, decide_eq_true_iff, mem]
      constructor
      · rintro (q | q)
        · exact q
        · have := (w.ow _ q).1; omega
      · exact .inl
    · have r0 := Int.emod_nonneg (t - r.beg) (show r.len ≠ 0 by omega)
      rw [if_neg c, RV.has_hi (by omega), Bool.eq_iff_iff, decide_eq_true_iff, decide_eq_true_iff, mem]
      have e : r.beg + (t - r.beg) % r.len - r.beg = (t - r.beg) % r.len := by omega
      rw [e]
      constructor
      · rintro (q | q)
        · have := (w.er _ q).2; omega
        · exact q
      · exact .inr
end TkL


namespace Tk
theorem least {p : Nat → Prop} (h : ∃ n, p n) : ∃ n, p n ∧ ∀ m, m < n → ¬ p m := by
  obtain ⟨n, hn⟩ := h
  induction n using Nat.strongRecOn with
  | ind n ih =>
    by_cases c : ∃ m, m < n ∧ p m
    · obtain ⟨m, hm, pm⟩ := c
      exact ih m hm pm
    · exact ⟨n, hn, fun m hm pm => c ⟨m, hm, pm⟩⟩
theorem exists_shortest {l : Int} {o : List Int} (hl : 1 ≤ l) (ow : ∀ x ∈ o, 0 ≤ x ∧ x < l) : ∃ n, Shortest l o n := by
  obtain ⟨n, ⟨n1, dv, cl⟩, mn⟩ := least (p := fun n => 1 ≤ n ∧ l % (n : Int) = 0 ∧ Closed l o n) ⟨l.toNat, by omega, by rw [Int.toNat_of_nonneg (by omega)]; exact Int.emod_self, by rw [Int.toNat_of_nonneg (by omega)]; exact closed_all hl ow⟩
  refine ⟨n, by omega, ?_, dv, cl, fun m h1 h2 z => mn m.toNat (by omega) ⟨by omega, by rw [Int.toNat_of_nonneg (by omega)]; exact z.1, by rw [Int.toNat_of_nonneg (by omega)]; exact z.2⟩⟩
  exact Int.le_of_dvd (by omega) (Int.dvd_of_emod_eq_zero dv)
theorem exists_row {e o : List Int} {b l : Int} (w : WF e b l o) (hb : b ≤ 200000) (hl : l ≤ 20000) : ∃ r, RB r ∧ ∀ t, r.has t = qhas e b l o t := by
  have b0 := w.b0
  have l1 := w.l1
  by_cases ho : o = []
  · have last : e ≠ [] → ∃ z ∈ e, ∀ x ∈ e, x ≤ z := fun hne => by
      have sp := List.dropLast_concat_getLast hne
      refine ⟨e.getLast hne, List.getLast_mem hne, fun x hx => ?_⟩
      have p := w.es
      rw [← sp] at p hx
      rcases List.mem_append.mp hx with q | q
      · have := (List.pairwise_append.mp p).2.2 x q (e.getLast hne) (by simp)
        omega
      · have : x = e.getLast hne := by simpa using q
        omega
    have key : ∀ c : Int, ((e = [] ∧ c = 0) ∨ ∃ z ∈ e, c = z + 1 ∧ ∀ x ∈ e, x ≤ z) → c ≤ 200000 → ∃ r, RB r ∧ ∀ t, r.has t = qhas e b l o t := fun c hc hc2 => by
      have fc := finite_canon w.es (fun x hx => (w.er x hx).1) hc
      refine ⟨⟨e, c, 1, []⟩, ⟨fc.1, hc2, by show (1 : Int) ≤ 20000; decide⟩, fun t => ?_⟩
      rw [fc.2]
      rcases Int.lt_or_le t b with q | q
      · rw [qhas_lo q]
      · rw [qhas_hi q, ho]
        simp only [List.not_mem_nil, decide_false]
        exact decide_eq_false fun z => by have := (w.er t z).2; omega
    by_cases he : e = []
    · exact key 0 (.inl ⟨he, rfl⟩) (by decide)
    · obtain ⟨z, hz, hz2⟩ := last he
      exact key (z + 1) (.inr ⟨z, hz, rfl, hz2⟩) (by have := (w.er z hz).2; omega)
  · obtain ⟨n, s⟩ := exists_shortest l1 w.ow
    have n1 := s.n1
    have pb : Per (qhas e b l o) b n := fun t ht => by
      rw [cyc_hi w s ht, cyc_hi w s (by omega)]
      have e : t + n - b = (t - b) + n := by omega
      rw [e, cyc_per]
    obtain ⟨c, pc, mc⟩ := least (p := fun c => Per (qhas e b l o) (c : Int) n) ⟨b.toNat, by rw [Int.toNat_of_nonneg b0]; exact pb⟩
    have cb : (c : Int) ≤ b := by
      rcases Int.lt_or_le b c with q | q
      · exact absurd (by rw [Int.toNat_of_nonneg b0]; exact pb) (mc b.toNat (by omega))
      · exact q
    have cy : ∀ t, (c : Int) ≤ t → qhas e b l o t = cyc o n (t - b) := fun t ht => by
      have hk : 0 ≤ (b - t).natAbs := Nat.zero_le _
      have := (pc.mul (k := ((b - t).natAbs : Int)) (by omega) (by omega)) t ht
      have hm : (1 : Int) * ((b - t).natAbs : Int) ≤ n * ((b - t).natAbs : Int) := Int.mul_le_mul_of_nonneg_right n1 (by omega)
      rw [this, cyc_hi w s (by omega)]
      unfold cyc
      have e : t + n * ((b - t).natAbs : Int) - b = (t - b) + n * ((b - t).natAbs : Int) := by omega
      rw [e, Int.add_mul_emod_self_left]
    have nc := normal_canon (e' := e.filter fun t => decide (t < (c : Int))) (o' := ((List.range n.toNat).map fun (k : Nat) => (k : Int)).filter fun y => decide (∃ x ∈ o, (x % n + (b - c)) % n = y)) w ho s (c := c) (by omega) cb (fun t h1 h2 => by rw [← cy t h1, qhas_lo h2]) (by
      by_cases c0 : (c : Int) = 0
      · exact .inl c0
      · refine .inr fun z => mc (c - 1) (by omega) fun t ht => ?_
        rcases Int.lt_or_le t c with q | q
        · have et : t = (c : Int) - 1 := by omega
          have cs := s.nl
          rw [cy (t + n) (by omega), et, qhas_lo (by omega), z]
          have e : (c : Int) - 1 + n - b = ((c : Int) - 1 - b) + n := by omega
          rw [e, cyc_per]
        · exact pc t q) (w.es.sublist List.filter_sublist) (fun x => by rw [List.mem_filter, decide_eq_true_iff]) (by
      refine List.Pairwise.sublist List.filter_sublist ?_
      rw [List.pairwise_map]
      exact List.pairwise_lt_range.imp fun h => by omega) (fun y => by
      rw [List.mem_filter, decide_eq_true_iff, List.mem_map]
      constructor
      · exact fun h => h.2
      · intro h
        refine ⟨?_, h⟩
        obtain ⟨x, _, rfl⟩ := h
        have r0 := Int.emod_nonneg (x % n + (b - c)) (show n ≠ 0 by omega)
        have r1 := Int.emod_lt_of_pos (x % n + (b - c)) (show 0 < n by omega)
        exact ⟨((x % n + (b - c)) % n).toNat, List.mem_range.mpr (by omega), by omega⟩)
    have nl := s.nl
    exact ⟨_, ⟨nc.1, by show (c : Int) ≤ 200000; omega, by show n ≤ 20000; omega⟩, nc.2⟩
end Tk
namespace TkL
open Tk
theorem VOk.row {v : VB} (ok : VOk v) (hl : v.l ≤ 20000) : ∃ r, RB r ∧ ∀ t, r.has t = v.has t := by
  have := ok.bb
  obtain ⟨r, rb, h⟩ := exists_row ok.wf (by omega) hl
  exact ⟨r, rb, fun t => by rw [h, ok.has]⟩
theorem _root_.Tk.RB.ext {r s : RV} (a : RB r) (b : RB s) (h : ∀ t, r.has t = s.has t) : r = s := a.c.ext b.c fun t _ => h t
theorem _root_.Tk.RB.dvd {r : RV} (a : RB r) {c n : Int} (hn : 1 ≤ n) (p : Per r.has c n) : r.len ∣ n := by
  have l1 := a.c.wf.l1
  have pm : Per r.has (max r.beg c) r.len := (qhas_per l1).up (by omega)
  have pn : Per r.has (max r.beg c) n := p.up (by omega)
  have pr := Per.rem l1 (by omega) pn pm
  have r0 := Int.emod_nonneg n (show r.len ≠ 0 by omega)
  have r1 := Int.emod_lt_of_pos n (show 0 < r.len by omega)
  refine Int.dvd_of_emod_eq_zero ?_
  rcases Int.lt_or_le (n % r.len) 1 with q | q
  · omega
  · have := a.c.ml _ _ q pr; omega
theorem _root_.Tk.RB.begle {r : RV} (a : RB r) {c n : Int} (hc : 0 ≤ c) (hn : 1 ≤ n) (p : Per r.has c n) : r.beg ≤ c := by
  have l1 := a.c.wf.l1
  obtain ⟨k, hk⟩ := a.dvd hn p
  have b0 := a.c.wf.b0
  refine a.c.mb c hc fun t ht => ?_
  have hk2 : (0 : Int) ≤ (r.beg.natAbs : Int) := by omega
  have m1 := (p.mul (k := (r.beg.natAbs : Int)) (by omega) hk2) t ht
  have m2 := (p.mul (k := (r.beg.natAbs : Int)) (by omega) hk2) (t + r.len) (by omega)
  have hm : (1 : Int) * (r.beg.natAbs : Int) ≤ n * (r.beg.natAbs : Int) := Int.mul_le_mul_of_nonneg_right hn hk2
  rw [m1, m2]
  have e : t + r.len + n * (r.beg.natAbs : Int) = t + n * (r.beg.natAbs : Int) + r.len := by omega
  rw [e]
  exact qhas_per l1 _ (by omega)
end TkL


namespace TkL
open PySem PySem.Spec PySem.Calls PyProof.Rows L2 Tk
theorem tks_len' {a : Int} {l : List Int} : (tks a l).length = l.length + 1 := tks_len
theorem tks_last {a : Int} {l : List Int} : (tks a l).getLastD 0 = a + l.sum := by
  have e := tks_split (a := a) (l := l)
  rw [List.getLastD_eq_getLast?, e, List.getLast?_append]; rfl
theorem rdUvalue (ds : List D) (P : D → Prop) (h : upValue ds P) : uLvalue { nx := fun _ => P .non, rt := P } (startU ["_law_plan_here", "_law_start", "_law_first", "_law_laps_here", "_law_ticks", "_law_lap"] ds) := by
  obtain ⟨s, fs, ls, rfl, hf, hl, hn, h⟩ := h
  show uLvalue _ [.val (.tup [.int s, .tup (iL fs), .tup (iL ls)]), .no, .no, .no, .no, .no]
  unfold uLvalue
  walk_at "ew"
  refine ⟨by omega, for_inv (fun i ρ => ∃ u5, ρ = [.val (.tup [.int s, .tup (iL fs), .tup (iL ls)]), .val (.int s), .val (.tup (iL fs)), .val (.tup (iL ls)), .own (iL (tks s ((fs ++ ls).take i))), u5]) ⟨_, rfl⟩ ?_ ?_⟩
  · rintro i x ρ hx ⟨u5, rfl⟩
    obtain ⟨n, hx', rfl⟩ := iL_get hx
    walk_at "ew"
    refine ⟨⟨_, rfl⟩, _, atI_lastD tks_ne, ?_⟩
    walk_at "ew"
    refine ⟨_, rfl, ?_, .val (.int n), ?_⟩
    · rw [iL_len, tks_len', List.length_take, List.length_append]; omega
    · rw [take_succ_of hx', tks_snoc, tks_last, ← iL_app]; rfl
  · rintro ρ ⟨u5, rfl⟩
    walk_at "ew"
    rw [cut_m1, List.take_length]
    exact h
theorem rdUfixed (ds : List D) (P : D → Prop) (h : upFixed ds P) : uLfixed { nx := fun _ => P .non, rt := P } (startU ["_law_value_here", "_law_early", "_law_begin", "_law_length", "_law_offsets", "_law_offset"] ds) := by
  obtain ⟨v, rfl, ok, ex, h⟩ := h
  show uLfixed _ [.val v.d, .no, .no, .no, .no, .no]
  unfold uLfixed
  walk_at "ew"
  refine ⟨v, rfl, ok, ex, fun r rb hr => ?_⟩
  have h := h r rb hr
  unfold normD
  walk_at "ew"
  have el := rb.el2
  have ol := rb.ol2
  refine ⟨by omega, lc_int (fun _ => true) (fun t => .int (r.beg + t)) (by omega) (fun t acc R ht ha hR => ?_) ?_⟩
  · walk_at "ew"
    exact ⟨ha, hR⟩
  · rw [List.filter_eq_self.mpr fun _ _ => rfl]
    have e : iL r.early ++ r.offs.map (fun t => D.int (r.beg + t)) = iL (fixV r).ts := by
      show _ = iL (r.early ++ r.offs.map (r.beg + ·))
      rw [← iL_app]; unfold iL; rw [List.map_map]; rfl
    walk_at "ew"
    rw [e]
    refine ⟨?_, h⟩
    rw [List.length_map]; omega
end TkL


namespace TkL
open PySem PySem.Spec PySem.Calls PyProof.Rows L2 Tk
theorem filter_true {l : List Int} : l.filter (fun _ => true) = l := List.filter_eq_self.mpr fun _ _ => rfl
theorem map_iL {l : List Int} {f : Int → Int} : l.map (fun t => D.int (f t)) = iL (l.map f) := by unfold iL; rw [List.map_map]; rfl
theorem map_iL0 {l : List Int} : l.map (fun t => D.int t) = iL l := rfl
theorem VOk.tl {v : VB} (ok : VOk v) : v.ts.length ≤ 510000 := by
  have := len_of_range ok.s ok.r (by have := ok.b0; have := ok.l1; omega)
  have := ok.bb; have := ok.lb
  omega
theorem rdUnormal (ds : List D) (P : D → Prop) (h : upLawNormal ds P) : uLnormal { nx := fun _ => P .non, rt := P } (startU ["_law_value_here", "_law_ticks", "_law_begin", "_law_length", "_law_late", "_law_known", "_law_marks", "_law_size", "_law_offsets", "_law_tick", "_law_one"] ds) := by
  obtain ⟨v, rfl, ok, ex, h⟩ := h
  have tl := ok.tl
  have b0 := ok.b0
  have l1 := ok.l1
  have lb := ok.lb
  show uLnormal _ [.val v.d, .no, .no, .no, .no, .no, .no, .no, .no, .no, .no]
  unfold uLnormal VB.d
  walk_at "ew"
  refine lc_int (fun t => decide (v.b ≤ t)) (fun t => .int (t - v.b)) (by omega) (fun t acc R ht ha hR => ?_) ?_
  · walk_at "ew"
    by_cases c : v.b ≤ t
    · rw [decide_eq_true c, if_pos rfl] at hR ⊢
      exact ⟨ha, hR⟩
    · rw [decide_eq_false c, if_neg Bool.false_ne_true] at hR ⊢
      exact hR
  rw [map_iL]
  have eo : (v.ts.filter fun t => decide (v.b ≤ t)).map (fun t => t - v.b) = v.o := rfl
  rw [eo]
  walk_at "ew"
  refine lc_int (fun _ => true) prT (by omega) (fun t acc R ht ha hR => ?_) ?_
  · walk_at "ew"
    exact ⟨ha, hR⟩
  rw [filter_true]
  walk_at "ew"
  have olen : v.o.length ≤ 510000 := by unfold VB.o; rw [List.length_map]; exact Nat.le_trans (List.length_filter_le _ _) tl
  by_cases ho : v.o = []
  · rw [decide_eq_true ho, if_pos rfl]
    obtain ⟨r, rb, hr⟩ := ex
    have h := h r rb hr
    have nf : ∀ r, RB r → (∀ t, r.has t = v.has t) → r = ⟨v.ts, if v.ts = [] then 0 else v.ts.getLastD 0 + 1, 1, []⟩ := fun r rb hr => norm_fin ok rb.c hr ho
    have e := nf r rb hr
    refine ⟨by omega, ?_⟩
    by_cases ht : v.ts = []
    · rw [decide_eq_true ht]
      try walk_at "ew"
      rw [e, if_pos ht] at h
      exact h
    · rw [decide_eq_false ht]
      try walk_at "ew"
      refine ⟨_, atI_lastD ht, ?_⟩
      rw [e, if_neg ht] at h
      exact h
  · rw [decide_eq_false ho, if_neg Bool.false_ne_true]
    refine lc_int (fun _ => true) prT (by omega) (fun t acc R ht ha hR => ?_) ?_
    · walk_at "ew"
      exact ⟨ha, hR⟩
    rw [filter_true]
    walk_at "ew"
    have w := ok.wf
    refine while_inv (fun m ρ => ∃ k : Int, ρ = [.val v.d, .val (.lst (iL v.ts)), .val (.int v.b), .val (.int v.l), .val (.lst (iL v.o)), .val (.mrk v.ts), .val (.mrk v.o), .val (.int k), .no, .no, .no] ∧ 1 ≤ k ∧ k ≤ v.l ∧ (∀ m, 1 ≤ m → m < k → ¬ (v.l % m = 0 ∧ Closed v.l v.o m)) ∧ m = (v.l - k).toNat) _ ⟨1, rfl, by omega, by omega, fun m h1 h2 => by omega, rfl⟩ ?_
    rintro m ρ ⟨k, rfl, k1, k2, kn, rfl⟩
    have next : ¬ (v.l % k = 0 ∧ Closed v.l v.o k) → k + 1 ≤ v.l ∧ ∀ m, 1 ≤ m → m < k + 1 → ¬ (v.l % m = 0 ∧ Closed v.l v.o m) := fun nk => by
      have : k ≠ v.l := fun z => nk (by subst z; exact ⟨Int.emod_self, closed_all l1 w.ow⟩)
      refine ⟨by omega, fun m h1 h2 => ?_⟩
      by_cases c : m < k
      · exact kn m h1 c
      · have : m = k := by omega
        subst this; exact nk
    walk_at "ew"
    have r0 := Int.emod_nonneg v.l (show k ≠ 0 by omega)
    refine ⟨by omega, ?_⟩
    by_cases c0 : 0 < v.l % k
    · rw [decide_eq_true c0, if_pos rfl]
      try walk_at "ew"
      have nx := next fun z => by omega
      exact ⟨_, by omega, _, rfl, by omega, nx.1, nx.2, rfl⟩
    · rw [decide_eq_false c0, if_neg Bool.false_ne_true]
      refine lc_int (fun t => !decide ((t + k) % v.l ∈ v.o)) (fun t => .int t) (by omega) (fun t acc R ht ha hR => ?_) ?_
      · walk_at "ew"
        refine ⟨by omega, ?_⟩
        by_cases c : (t + k) % v.l ∈ v.o
        · rw [decide_eq_true c] at hR ⊢
          exact hR
        · rw [decide_eq_false c] at hR ⊢
          exact ⟨ha, hR⟩
      rw [map_iL0]
      walk_at "ew"
      have cl : (v.o.filter fun t => !decide ((t + k) % v.l ∈ v.o)) = [] ↔ Closed v.l v.o k := by
        rw [List.filter_eq_nil_iff]
        constructor
        · intro h x hx
          have := h x hx
          simpa using this
        · intro h x hx
          simpa using h x hx
      by_cases c1 : (v.o.filter fun t => !decide ((t + k) % v.l ∈ v.o)) = []
      · rw [decide_eq_true c1]
        have sh : Shortest v.l v.o k := ⟨k1, k2, by omega, cl.mp c1, kn⟩
        try walk_at "ew"
        obtain ⟨r, rb, hr⟩ := ex
        have h := h r rb hr
        have en := norm_len ok rb.c hr sh
        have nb := norm_beg ok rb.c hr sh
        subst en
        refine while_inv (fun m ρ => ∃ c : Int, ρ = [.val v.d, .val (.lst (iL v.ts)), .val (.int c), .val (.int v.l), .val (.lst (iL v.o)), .val (.mrk v.ts), .val (.mrk v.o), .val (.int r.len), .no, .no, .no] ∧ r.beg ≤ c ∧ c ≤ v.b ∧ m = c.toNat) _ ⟨v.b, rfl, nb, Int.le_refl _, rfl⟩ ?_
        rintro m ρ ⟨c, rfl, c1, c2, rfl⟩
        have rb0 := rb.c.wf.b0
        have rest : (¬ (0 < c ∧ v.has (c - 1) = v.has (c - 1 + r.len))) → c = r.beg := fun z => norm_stop ok rb.c hr c1 z
        have fin : c = r.beg → (uSeq (uAsg (uLc (uIRng1 (uCons (uVar 7) uNil)) (uName 9) (uB (uMrk false (uDef upAt (uCons (uPer 0) (uCons (uOp (qI0 fun i j => D.int (i + j)) (uVar 2) (uVar 9)) uNil))) (uVar 5))) (uPer 9) [9]) (uName 8))
            (uRet (uTup (uCons (uCB gTuple (uCons (uLc (uIL (uPer 1)) (uName 9) (uB (uOp (qI0 fun i j => D.bl (decide (i < j))) (uVar 9) (uVar 2))) (uPer 9) [9]) uNil)) (uCons (uPer 2) (uCons (uPer 7) (uCons (uCB gTuple (uCons (uVar 8) uNil)) uNil))))))) { nx := fun x => P D.non, rt := P }
            [.val v.d, .val (.lst (iL v.ts)), .val (.int c), .val (.int v.l), .val (.lst (iL v.o)), .val (.mrk v.ts), .val (.mrk v.o), .val (.int r.len), .no, .no, .no] := fun z => by
          subst z
          have rl := rb.lb
          walk_at "ew"
          refine ⟨by omega, ?_⟩
          rw [rngD_iL]
          refine lc_int (fun t => v.has (r.beg + t)) (fun t => .int t) (by simp; omega) (fun t acc R ht ha hR => ?_) ?_
          · walk_at "ew"
            refine ⟨v, _, rfl, l1, lb, ?_⟩
            walk_at "ew"
            show if v.has (r.beg + t) = true then _ else _
            by_cases c : v.has (r.beg + t) = true
            · rw [c] at hR ⊢
              exact ⟨ha, hR⟩
            · rw [if_neg c] at hR ⊢
              exact hR
          rw [map_iL0, norm_offs ok rb.c hr]
          walk_at "ew"
          refine lc_int (fun t => decide (t < r.beg)) (fun t => .int t) (by omega) (fun t acc R ht ha hR => ?_) ?_
          · walk_at "ew"
            by_cases c : t < r.beg
            · rw [decide_eq_true c] at hR ⊢
              exact ⟨ha, hR⟩
            · rw [decide_eq_false c] at hR ⊢
              exact hR
          rw [map_iL0, norm_early ok rb.c hr nb]
          walk_at "ew"
          have := rb.el2
          have := rb.ol2
          exact ⟨by omega, by omega, h⟩
        walk_at "ew"
        by_cases c0 : 0 < c
        · rw [decide_eq_true c0]
          try walk_at "ew"
          refine ⟨v, c - 1, r.len, rfl, l1, lb, ?_⟩
          by_cases c3 : v.has (c - 1) = v.has (c - 1 + r.len)
          · rw [decide_eq_true c3]
            try walk_at "ew"
            exact ⟨_, by omega, _, rfl, norm_step ok rb.c hr c1 c0 c3, by omega, rfl⟩
          · rw [decide_eq_false c3]
            have f := fin (rest fun z => c3 z.2)
            revert f
            walk_at "ew"
            exact id
        · rw [decide_eq_false c0]
          have f := fin (rest fun z => c0 z.1)
          revert f
          walk_at "ew"
          exact id
      · rw [decide_eq_false c1]
        try walk_at "ew"
        have nx := next fun z => c1 (cl.mpr z.2)
        exact ⟨_, by omega, _, rfl, by omega, nx.1, nx.2, rfl⟩
end TkL


namespace TkL
open PySem PySem.Spec PySem.Calls PyProof.Rows L2 Tk
theorem strL_len {l : List Str} : (strL l).length = l.length := List.length_map _
theorem strL_app {l m : List Str} : strL l ++ strL m = strL (l ++ m) := (List.map_append).symm
theorem gJoin_s {z : Str} {ys : List Str} {P : D → Prop} (hz : (ys.map (·.length)).sum + ys.length * z.length ≤ 16777216) (h : P (.str (Txt.join z ys))) : gJoin z [.lst (strL ys)] P := ⟨ys, rfl, hz, h⟩
theorem wsum_ok {ws : List Str} (h : ∀ p ∈ ws, p.length ≤ 6) (hn : ws.length ≤ 1000000) : (ws.map (·.length)).sum + ws.length * (" " : Str).length ≤ 16777216 := by
  have wc := wsum_le _ _ h
  have : (" " : Str).length = 1 := by decide
  rw [this]; omega
theorem ts_str {i : Int} : ((toString i : String) : Str) = numS i := rfl
theorem gStr_n {i : Int} {P : D → Prop} (h0 : 0 ≤ i) (h1 : i < 1000000) (h : P (.str (numS i))) : gStr [.int i] P := ⟨log_small h0 h1, h⟩
theorem map_strL {l : List Int} : (l.map fun t => D.str (numS t)) = strL (l.map numS) := by unfold strL; rw [List.map_map]; rfl
theorem sum_nn0 : ∀ {l : List Int}, (∀ x ∈ l, 0 ≤ x) → 0 ≤ l.sum
  | [], _ => by simp
  | a :: l, h => by
    rw [List.sum_cons]
    have := h a (by simp)
    have := sum_nn0 (l := l) fun x hx => h x (by simp [hx])
    omega
theorem sum_mem_le : ∀ {l : List Int}, (∀ x ∈ l, 0 ≤ x) → ∀ x ∈ l, x ≤ l.sum
  | [], _, x, hx => absurd hx List.not_mem_nil
  | a :: l, h, x, hx => by
    rw [List.sum_cons]
    have h0 := h a (by simp)
    have h1 := sum_nn0 (l := l) fun x hx => h x (by simp [hx])
    rcases List.mem_cons.mp hx with e | e
    · omega
    · have := sum_mem_le (l := l) (fun x hx => h x (by simp [hx])) x e
      omega
theorem rdUrow (ds : List D) (P : D → Prop) (h : upLawRow ds P) : uLrow { nx := fun _ => P .non, rt := P } (startU ["_law_plan_here", "_law_start", "_law_first", "_law_laps_here", "_law_lap", "_law_number"] ds) := by
  obtain ⟨s, fs, ls, rfl, h0, hf, hl, hfl, hll, hn, hs, hls, h⟩ := h
  have fb : ∀ x ∈ fs, 1 ≤ x ∧ x < 1000000 := fun x hx => ⟨hf x hx, by have := sum_mem_le (fun y hy => by have := hf y hy; omega) x hx; omega⟩
  have lb : ∀ x ∈ ls, 1 ≤ x ∧ x < 1000000 := fun x hx => ⟨hl x hx, by have := sum_mem_le (fun y hy => by have := hl y hy; omega) x hx; omega⟩
  have fs0 : 0 ≤ fs.sum := by
    have key : ∀ l : List Int, (∀ x ∈ l, 1 ≤ x) → 0 ≤ l.sum := fun l => by
      induction l with
      | nil => intro _; simp
      | cons a l ih => intro hh; rw [List.sum_cons]; have := hh a (by simp); have := ih (fun y hy => hh y (by simp [hy])); omega
    exact key fs hf
  show uLrow _ [.val (.tup [.int s, .tup (iL fs), .tup (iL ls)]), .no, .no, .no, .no, .no]
  unfold uLrow
  walk_at "ew"
  refine ⟨by omega, ?_⟩
  have e1 : [D.int s] ++ iL fs = iL (s :: fs) := rfl
  rw [e1]
  refine lc_int (fun _ => true) (fun t => .str (numS t)) (by simp; omega) (fun t acc R ht ha hR => ?_) ?_
  · walk_at "ew"
    refine gStr_n ?_ ?_ ⟨ha, hR⟩
    · rcases List.mem_cons.mp ht with e | e
      · omega
      · have := fb t e; omega
    · rcases List.mem_cons.mp ht with e | e
      · omega
      · have := fb t e; omega
  rw [filter_true, map_strL]
  walk_at "ew"
  refine ⟨by rw [strL_len]; simp; omega, ?_⟩
  refine lc_int (fun _ => true) (fun t => .str (numS t)) (by omega) (fun t acc R ht ha hR => ?_) ?_
  · walk_at "ew"
    have := lb t ht
    exact gStr_n (by omega) (by omega) ⟨ha, hR⟩
  rw [filter_true, map_strL]
  walk_at "ew"
  have e2 : strL (List.map numS (s :: fs)) ++ [D.str "|"] ++ strL (List.map numS ls) = strL (planWords s fs ls) := by
    unfold planWords strL; simp
  have wl := word_len (s := s) (fs := fs) (ls := ls) h0 (by omega) fb lb
  have wn := planWords_len (s := s) (fs := fs) (ls := ls)
  have jl := join_len wl
  refine ⟨by simp [strL_len]; omega, ?_⟩
  rw [e2]
  refine gJoin_s (wsum_ok wl (by omega)) ?_
  exact ⟨_, _, rfl, by omega, parse_plan h0 hf hl hn hs hls, h⟩
theorem word_len' {s : Int} {fs ls : List Int} (h0 : 0 ≤ s ∧ s < 1000000) (hf : ∀ x ∈ fs, 0 ≤ x ∧ x < 1000000) (hl : ∀ x ∈ ls, 0 ≤ x ∧ x < 1000000) : ∀ p ∈ planWords s fs ls, p.length ≤ 6 := by
  intro p hp
  unfold planWords at hp
  have num : ∀ i : Int, 0 ≤ i → i < 1000000 → (numS i).length ≤ 6 := fun i a b => (numS_len a b).2
  rcases List.mem_append.mp hp with z | z
  · obtain ⟨i, hi, rfl⟩ := List.mem_map.mp z
    rcases List.mem_cons.mp hi with e | e
    · subst e; exact num _ h0.1 h0.2
    · have := hf i e; exact num _ this.1 this.2
  · rcases List.mem_cons.mp z with z | z
    · rw [z]; decide
    · obtain ⟨i, hi, rfl⟩ := List.mem_map.mp z
      have := hl i hi; exact num _ this.1 this.2
theorem diffs_rng : ∀ l : List Int, diffs l = (List.range (l.length - 1)).map fun k => l.getD (k + 1) 0 - l.getD k 0
  | [] => rfl
  | [_] => rfl
  | a :: b :: l => by
    show (b - a) :: diffs (b :: l) = _
    rw [diffs_rng (b :: l)]
    show _ = (List.range (l.length + 1)).map _
    rw [List.range_succ_eq_map, List.map_cons, List.map_map]
    rfl
theorem diffs_len {l : List Int} : (diffs l).length = l.length - 1 := by rw [diffs_rng, List.length_map, List.length_range]
theorem getD_app1 {l m : List Int} {k : Nat} (h : k < l.length) : (l ++ m).getD k 0 = l.getD k 0 := by
  rw [List.getD_eq_getElem?_getD, List.getD_eq_getElem?_getD, List.getElem?_append_left h]
theorem rdUtext (ds : List D) (P : D → Prop) (h : upLawText ds P) : uLtext { nx := fun _ => P .non, rt := P } (startU ["_law_value_here", "_law_early", "_law_begin", "_law_length", "_law_offsets", "_law_ticks", "_law_words", "_law_ends", "_law_offset", "_law_k"] ds) := by
  obtain ⟨v, rfl, ok, ex, h⟩ := h
  show uLtext _ [.val v.d, .no, .no, .no, .no, .no, .no, .no, .no, .no]
  unfold uLtext
  walk_at "ew"
  refine ⟨v, rfl, ok, ex, fun r rb hr => ?_⟩
  have h := h r rb hr
  have el := rb.el2
  have ol := rb.ol2
  have w := rb.c.wf
  have ll := lap_lists rb
  unfold normD
  walk_at "ew"
  rw [cut_hiN (by decide)]
  refine ⟨by omega, lc_int (fun _ => true) (fun t => .int (r.beg + t)) (by rw [List.length_take]; omega) (fun t acc R ht ha hR => ?_) ?_⟩
  · walk_at "ew"
    exact ⟨ha, hR⟩
  rw [filter_true, map_iL]
  walk_at "ew"
  obtain ⟨T, eT⟩ : ∃ T, T = r.early ++ (r.offs.take (1 : Int).toNat).map (fun t => r.beg + t) := ⟨_, rfl⟩
  have fl : r.flaps = diffs T := by rw [eT]; rfl
  have tl : T.length ≤ 200001 := by rw [eT, List.length_append, List.length_map, List.length_take]; omega
  rw [← eT]
  refine ⟨by rw [List.length_map, List.length_take]; omega, ?_⟩
  by_cases hT : T = []
  · rw [decide_eq_true hT]
    try walk_at "ew"
    have z : r.early = [] ∧ r.offs = [] := by
      rw [eT] at hT
      have := List.append_eq_nil_iff.mp hT
      refine ⟨this.1, ?_⟩
      have h2 := this.2
      cases ho : r.offs with
      | nil => rfl
      | cons a l => rw [ho] at h2; cases h2
    have e : rowText r = "never" := by unfold rowText; rw [if_pos (by rw [z.1, z.2]; rfl)]
    rw [← e]; exact h
  rw [decide_eq_false hT]
  try walk_at "ew"
  have T0 : 0 < T.length := List.length_pos_iff.mpr hT
  have hne : ¬ (r.early.length + r.offs.length = 0) := fun z => hT (by
    rw [eT]
    have h1 : r.early = [] := List.length_eq_zero_iff.mp (by omega)
    have h2 : r.offs = [] := List.length_eq_zero_iff.mp (by omega)
    rw [h1, h2]; rfl)
  have e0 : T.getD 0 0 = (if 0 < r.early.length then r.early.getD 0 0 else r.beg + r.offs.getD 0 0) := by
    rw [eT]
    by_cases c : 0 < r.early.length
    · rw [if_pos c, getD_app1 c]
    · rw [if_neg c]
      have h1 : r.early = [] := List.length_eq_zero_iff.mp (by omega)
      rw [h1]
      cases ho : r.offs with
      | nil => rw [h1, ho] at hne; exact absurd rfl hne
      | cons a l => rfl
  have b0 : 0 ≤ T.getD 0 0 ∧ T.getD 0 0 < 1000000 := by
    have bb := rb.bb
    have lb := rb.lb
    have wb := w.b0
    rw [e0]
    by_cases c : 0 < r.early.length
    · rw [if_pos c]
      have m : r.early.getD 0 0 ∈ r.early := by rw [List.getD_eq_getElem?_getD, List.getElem?_eq_getElem c]; exact List.getElem_mem c
      have := w.er _ m
      omega
    · rw [if_neg c]
      have c2 : 0 < r.offs.length := by omega
      have m : r.offs.getD 0 0 ∈ r.offs := by rw [List.getD_eq_getElem?_getD, List.getElem?_eq_getElem c2]; exact List.getElem_mem c2
      have := w.ow _ m
      omega
  refine ⟨_, atI_iL (n := 0) (by decide) (by omega), ?_⟩
  try walk_at "ew"
  refine gStr_n b0.1 b0.2 ?_
  try walk_at "ew"
  refine ⟨by omega, ?_⟩
  rw [rngD_iL]
  have rl : ((T.length : Int) - 1).toNat = T.length - 1 := by omega
  rw [rl]
  have dm : ∀ k : Nat, k < T.length - 1 → T.getD (k + 1) 0 - T.getD k 0 ∈ diffs T := fun k hk => by
    rw [diffs_rng]; exact List.mem_map.mpr ⟨k, List.mem_range.mpr hk, rfl⟩
  refine lc_int (fun _ => true) (fun t => .str (numS (T.getD (t + 1).toNat 0 - T.getD t.toNat 0))) (by simp; omega) (fun t acc R ht ha hR => ?_) ?_
  · obtain ⟨k, hk, rfl⟩ := List.mem_map.mp ht
    have hk := List.mem_range.mp hk
    walk_at "ew"
    refine ⟨_, atI_iL (by omega) (by omega), _, atI_iL (by omega) (by omega), ?_⟩
    walk_at "ew"
    have e1 : ((k : Int) + 1).toNat = k + 1 := by omega
    have e2 : (k : Int).toNat = k := by omega
    rw [e1, e2] at *
    have := dm k hk
    rw [← fl] at this
    have := ll.1 _ this
    exact gStr_n this.1 this.2 ⟨ha, hR⟩
  have ed : ((List.range (T.length - 1)).map fun (k : Nat) => (k : Int)).map (fun t => D.str (numS (T.getD (t + 1).toNat 0 - T.getD t.toNat 0))) = strL (r.flaps.map numS) := by
    rw [fl, diffs_rng]
    unfold strL
    rw [List.map_map, List.map_map, List.map_map]
    apply List.map_congr_left
    intro k _
    show D.str (numS (T.getD ((k : Int) + 1).toNat 0 - T.getD (k : Int).toNat 0)) = _
    have e1 : ((k : Int) + 1).toNat = k + 1 := by omega
    have e2 : (k : Int).toNat = k := by omega
    rw [e1, e2]; rfl
  rw [filter_true, ed]
  walk_at "ew"
  have fll : r.flaps.length ≤ 200000 := by rw [fl, diffs_len]; omega
  refine ⟨by rw [strL_len, List.length_map]; omega, ?_⟩
  have e3 : [D.str (numS (T.getD (0 : Int).toNat 0))] ++ strL (r.flaps.map numS) = strL ((T.getD 0 0 :: r.flaps).map numS) := rfl
  rw [e3]
  have wl6 : ∀ p ∈ (T.getD 0 0 :: r.flaps).map numS, p.length ≤ 6 := fun p hp => by
    obtain ⟨i, hi, rfl⟩ := List.mem_map.mp hp
    rcases List.mem_cons.mp hi with e | e
    · rw [e]; exact (numS_len b0.1 b0.2).2
    · have := ll.1 i e; exact (numS_len this.1 this.2).2
  by_cases ho : r.offs = []
  · rw [decide_eq_true ho]
    try walk_at "ew"
    refine gJoin_s (wsum_ok wl6 (by simp; omega)) ?_
    have e : rowText r = Txt.join " " ((T.getD 0 0 :: r.flaps).map numS) := by
      unfold rowText
      rw [if_neg hne, fin_text, e0, if_neg (show ¬ 0 < r.offs.length by rw [ho]; decide), eS]
    rw [← e]; exact h
  rw [decide_eq_false ho]
  try walk_at "ew"
  have o0 : 0 < r.offs.length := List.length_pos_iff.mpr ho
  rw [cut_loN (by decide)]
  refine ⟨by rw [List.length_drop]; omega, ?_⟩
  refine ⟨_, atI_iL (n := 0) (by decide) (by omega), ?_⟩
  try walk_at "ew"
  have e4 : iL (r.offs.drop (1 : Int).toNat) ++ [D.int (r.offs.getD (0 : Int).toNat 0 + r.len)] = iL (r.offs.drop 1 ++ [r.offs.getD 0 0 + r.len]) := by
    rw [← iL_app]; rfl
  rw [e4]
  obtain ⟨M, eM⟩ : ∃ M, M = r.offs ++ (r.offs.take 1).map (· + r.len) := ⟨_, rfl⟩
  have M1 : M = r.offs ++ [r.offs.getD 0 0 + r.len] := by
    rw [eM]
    cases hc : r.offs with
    | nil => exact absurd hc ho
    | cons a l => rfl
  have la : r.laps = diffs M := by rw [eM]; rfl
  have Ml : M.length = r.offs.length + 1 := by rw [M1]; simp
  have En : ∀ k : Nat, k < r.offs.length → (r.offs.drop 1 ++ [r.offs.getD 0 0 + r.len]).getD k 0 = M.getD (k + 1) 0 := fun k hk => by
    rw [M1]
    cases hc : r.offs with
    | nil => exact absurd hc ho
    | cons a l => rfl
  have Mn : ∀ k : Nat, k < r.offs.length → r.offs.getD k 0 = M.getD k 0 := fun k hk => by rw [M1, getD_app1 hk]
  have dm2 : ∀ k : Nat, k < r.offs.length → M.getD (k + 1) 0 - M.getD k 0 ∈ diffs M := fun k hk => by
    rw [diffs_rng]; exact List.mem_map.mpr ⟨k, List.mem_range.mpr (by omega), rfl⟩
  refine ⟨by rw [List.length_drop]; omega, by rw [strL_len, List.length_map, List.length_cons]; omega, by omega, ?_⟩
  rw [rngD_iL, Int.toNat_natCast]
  refine lc_int (fun _ => true) (fun t => .str (numS (M.getD (t + 1).toNat 0 - M.getD t.toNat 0))) (by simp; omega) (fun t acc R ht ha hR => ?_) ?_
  · obtain ⟨k, hk, rfl⟩ := List.mem_map.mp ht
    have hk := List.mem_range.mp hk
    walk_at "ew"
    refine ⟨_, atI_iL (by omega) (by rw [List.length_append, List.length_drop, List.length_singleton]; omega), _, atI_iL (by omega) (by omega), ?_⟩
    try walk_at "ew"
    have e1 : ((k : Int) + 1).toNat = k + 1 := by omega
    have e2 : (k : Int).toNat = k := by omega
    rw [e1, e2] at *
    rw [En k hk, Mn k hk]
    have := dm2 k hk
    rw [← la] at this
    have := ll.2 _ this
    exact gStr_n this.1 this.2 ⟨ha, hR⟩
  have ed2 : ((List.range r.offs.length).map fun (k : Nat) => (k : Int)).map (fun t => D.str (numS (M.getD (t + 1).toNat 0 - M.getD t.toNat 0))) = strL (r.laps.map numS) := by
    rw [la, diffs_rng, Ml]
    unfold strL
    rw [List.map_map, List.map_map, List.map_map]
    apply List.map_congr_left
    intro k _
    show D.str (numS (M.getD ((k : Int) + 1).toNat 0 - M.getD (k : Int).toNat 0)) = _
    have e1 : ((k : Int) + 1).toNat = k + 1 := by omega
    have e2 : (k : Int).toNat = k := by omega
    rw [e1, e2]; rfl
  rw [filter_true, ed2]
  have lal : r.laps.length ≤ 20000 := by rw [la, diffs_len]; omega
  have e5 : strL ((T.getD 0 0 :: r.flaps).map numS) ++ [D.str "|"] ++ strL (r.laps.map numS) = strL (planWords (T.getD 0 0) r.flaps r.laps) := by
    unfold planWords strL; simp
  have wl := word_len' (s := T.getD 0 0) (fs := r.flaps) (ls := r.laps) b0 ll.1 ll.2
  have wn := planWords_len (s := T.getD 0 0) (fs := r.flaps) (ls := r.laps)
  try walk_at "ew"
  refine ⟨by rw [List.length_append, strL_len, strL_len]; simp; omega, ?_⟩
  rw [e5]
  refine gJoin_s (wsum_ok wl (by omega)) ?_
  have e : rowText r = Txt.join " " (planWords (T.getD 0 0) r.flaps r.laps) := by
    unfold rowText
    rw [if_neg hne, plan_text, e0, if_pos o0]
  rw [← e]; exact h
end TkL


namespace TkL
open PySem PySem.Spec PySem.Calls PyProof.Rows L2 Tk
theorem below_i {n : Int} {P : D → Prop} (h0 : 0 < n) (h1 : n < 1073741824) (h : ∀ v, 0 ≤ v → v < n → P (.int v)) : upBelow [.src, .int n] P := ⟨n, rfl, h0, h1, h⟩
theorem sum_le_len : ∀ {l : List Int} {k : Int}, (∀ x ∈ l, x ≤ k) → l.sum ≤ k * (l.length : Int)
  | [], k, _ => by simp
  | a :: l, k, h => by
    have h1 := h a (by simp)
    have h2 := sum_le_len (l := l) (k := k) fun x hx => h x (by simp [hx])
    rw [List.sum_cons, List.length_cons]
    have e : k * ((l.length + 1 : Nat) : Int) = k * (l.length : Int) + k := by rw [Int.natCast_add, Int.mul_add]; simp
    omega
theorem fix_bounds {v : VB} {r : RV} (ok : VOk v) (rb : RB r) (hr : ∀ t, r.has t = v.has t) : r.beg ≤ v.b ∧ r.len ≤ v.l := by
  have p : Per r.has v.b v.l := fun t ht => by
    rw [hr, hr, ok.has, ok.has]
    exact qhas_per ok.l1 t ht
  exact ⟨rb.begle ok.b0 ok.l1 p, rb.c.ml _ _ ok.l1 p⟩
theorem ts_ne_of {r : RV} {t : Int} (rb : RB r) (h : r.has t = true) : (fixV r).ts ≠ [] := fun z => by
  have z' : r.early ++ r.offs.map (r.beg + ·) = [] := z
  have := List.append_eq_nil_iff.mp z'
  have h1 := this.1
  have h2 := List.map_eq_nil_iff.mp this.2
  rcases Int.lt_or_le t r.beg with q | q
  · rw [RV.has_lo q, h1] at h; cases h
  · rw [RV.has_hi q, h2] at h; cases h
theorem rdUshort (ds : List D) (P : D → Prop) (h : upShort ds P) : uLshort { nx := fun _ => P .non, rt := P } (startU ["_law_d", "_law_laps_here", "_law_value_here", "_law_ticks", "_law_k"] ds) := by
  obtain ⟨rfl, h⟩ := h
  show uLshort _ [.val .src, .no, .no, .no, .no]
  unfold uLshort
  walk_at "ew"
  refine below_i (by decide) (by decide) fun a a0 a1 => ?_
  walk_at "ew"
  refine ⟨by omega, ?_⟩
  rw [rngD_iL]
  refine lc_inv (fun i acc => ∃ l : List Int, acc = iL l ∧ l.length = i ∧ ∀ x ∈ l, 1 ≤ x ∧ x ≤ 5) ⟨[], rfl, rfl, fun x hx => by cases hx⟩ ?_ ?_
  · rintro i x acc hx ⟨l, rfl, hl, hb⟩
    have hi := lt_of_get hx
    rw [iL_len] at hi
    simp at hi
    walk_at "ew"
    refine below_i (by decide) (by decide) fun b b0 b1 => ?_
    walk_at "ew"
    refine ⟨by omega, l ++ [1 + b], by rw [← iL_app]; rfl, by simp; omega, fun x hx => ?_⟩
    rcases List.mem_append.mp hx with z | z
    · exact hb x z
    · have : x = 1 + b := by simpa using z
      omega
  rintro acc ⟨ls, rfl, hl, lb⟩
  rw [iL_len] at hl
  simp at hl
  walk_at "ew"
  refine ⟨by omega, below_i (by decide) (by decide) fun s s0 s1 => ?_⟩
  refine ⟨2, rfl, by decide, by decide, fun fs0 fn fl fb => ?_⟩
  walk_at "ew"
  refine below_i (by decide) (by decide) fun c c0 c1 => ?_
  walk_at "ew"
  rw [cut_hiN c0]
  obtain ⟨fs, hfs⟩ : ∃ fs, fs = fs0.take c.toNat := ⟨_, rfl⟩
  rw [← hfs]
  have ffb : ∀ x ∈ fs, 1 ≤ x ∧ x ≤ 60 := fun x hx => fb x (List.mem_of_mem_take (by rw [← hfs]; exact hx))
  have ffl : fs.length ≤ 2 := by rw [hfs, List.length_take]; omega
  have s1' := sum_le_len (fun x hx => (ffb x hx).2)
  have s2' := sum_le_len (fun x hx => (lb x hx).2)
  have hn : ls ≠ [] := fun z => by rw [z] at hl; simp at hl; omega
  refine ⟨s, fs, ls, rfl, by omega, by omega, hn, ?_⟩
  have ok := planV_ok (s := s) (fs := fs) (ls := ls) s0 (fun x hx => (ffb x hx).1) (fun x hx => (lb x hx).1) hn (by omega) (by omega)
  refine ⟨_, rfl, ok, ok.row (by show ls.sum ≤ 20000; omega), fun r rb hr => ?_⟩
  have bd := fix_bounds ok rb hr
  have vb : (planV s fs ls).b = s + fs.sum := rfl
  have vl : (planV s fs ls).l = ls.sum := rfl
  rw [vb, vl] at bd
  have fx := fix_ok rb (by omega)
  have w := rb.c.wf
  have st : r.has s = true := by
    rw [hr, planV_has s0 (fun x hx => (ffb x hx).1) (fun x hx => (lb x hx).1) hn]
    exact plan_start (fun x hx => (ffb x hx).1) hn
  have sv : ShortV (fixV r) := ⟨fx.1, by show r.beg ≤ 200; omega, by show r.len ≤ 10; omega, ts_ne_of rb st⟩
  unfold VB.d
  walk_at "ew"
  refine below_i (by decide) (by decide) fun e e0 e1 => ?_
  walk_at "ew"
  by_cases ce : 0 < e
  · rw [decide_eq_true ce]
    try walk_at "ew"
    exact h _ sv
  · rw [decide_eq_false ce]
    try walk_at "ew"
    refine below_i (by decide) (by decide) fun f f0 f1 => ?_
    walk_at "ew"
    rw [cut_hiN (by omega)]
    obtain ⟨ts, hts⟩ : ∃ ts, ts = (fixV r).ts.take (1 + f).toNat := ⟨_, rfl⟩
    rw [← hts]
    have tne : ts ≠ [] := fun z => by
      rw [hts, List.take_eq_nil_iff] at z
      rcases z with z | z
      · omega
      · exact sv.ne z
    refine ⟨_, atI_lastD tne, ?_⟩
    try walk_at "ew"
    have lm : ts.getLastD 0 ∈ ts := by
      rw [List.getLastD_eq_getLast?, List.getLast?_eq_some_getLast tne]
      exact List.getLast_mem tne
    have lr := fx.1.r _ (List.mem_of_mem_take (by rw [← hts]; exact lm))
    have fb' : (fixV r).b = r.beg := rfl
    have fl' : (fixV r).l = r.len := rfl
    rw [fb', fl'] at lr
    have tp : ts.Pairwise (· < ·) := by rw [hts]; exact fx.1.s.sublist (List.take_sublist _ _)
    have tle : ∀ x ∈ ts, x ≤ ts.getLastD 0 := fun x hx => by
      have e : ts.getLastD 0 = ts.getLast tne := by rw [List.getLastD_eq_getLast?, List.getLast?_eq_some_getLast tne]; rfl
      rw [e]
      have sp := List.dropLast_concat_getLast tne
      have p := tp
      rw [← sp] at p hx
      rcases List.mem_append.mp hx with q | q
      · have := (List.pairwise_append.mp p).2.2 x q (ts.getLast tne) (by simp)
        omega
      · have : x = ts.getLast tne := by simpa using q
        omega
    have := h ⟨ts, ts.getLastD 0 + 1, 1⟩ ⟨⟨tp, fun x hx => ⟨(fx.1.r _ (List.mem_of_mem_take (by rw [← hts]; exact hx))).1, by have := tle x hx; show x < ts.getLastD 0 + 1 + 1; omega⟩, by show 0 ≤ ts.getLastD 0 + 1; omega, Int.le_refl 1, by show ts.getLastD 0 + 1 ≤ 100000; omega, by show (1 : Int) ≤ 400000; decide⟩, by show ts.getLastD 0 + 1 ≤ 200; omega, by show (1 : Int) ≤ 10; decide, tne⟩
    exact this
theorem rdUthree (ds : List D) (P : D → Prop) (h : upThree ds P) : uLthree { nx := fun _ => P .non, rt := P } (startU ["_law_d", "_law_values", "_law_k", "_law_value_here"] ds) := by
  obtain ⟨rfl, h⟩ := h
  show uLthree _ [.val .src, .no, .no, .no]
  unfold uLthree
  walk_at "ew"
  refine ⟨by decide, lc_inv (fun i acc => ∃ vs : List VB, acc = vs.map VB.d ∧ vs.length = i ∧ ∀ v ∈ vs, ShortV v) ⟨[], rfl, rfl, fun x hx => by cases hx⟩ ?_ ?_⟩
  · rintro i x acc hx ⟨l, rfl, hl, hb⟩
    have hi := lt_of_get hx
    rw [rngD_length] at hi
    have hi : i < 3 := hi
    walk_at "ew"
    refine ⟨rfl, fun v sv => ⟨by rw [List.length_map]; omega, l ++ [v], by simp, by simp; omega, fun x hx => ?_⟩⟩
    rcases List.mem_append.mp hx with z | z
    · exact hb x z
    · have : x = v := by simpa using z
      rw [this]; exact sv
  rintro acc ⟨vs, rfl, hl, hb⟩
  rw [rngD_length] at hl
  obtain ⟨v1, v2, v3, rfl⟩ : ∃ v1 v2 v3, vs = [v1, v2, v3] := by
    match vs, hl with
    | [a, b, c], _ => exact ⟨a, b, c, rfl⟩
  walk_at "ew"
  have sv : ∀ (i : Nat) v, [v1, v2, v3][i]? = some v → ShortV v := fun i v e => hb v (List.mem_of_getElem? e)
  refine lc_inv (fun i acc => ∃ rs : List RV, acc = rs.map D.row ∧ rs.length = i ∧ ∀ (j : Nat) (r : RV) (v : VB), rs[j]? = some r → [v1, v2, v3][j]? = some v → RB r ∧ ∀ t, r.has t = v.has t) ⟨[], rfl, rfl, fun j r v e => by cases e⟩ ?_ ?_
  · rintro i x acc hx ⟨l, rfl, hl, hr⟩
    rw [List.getElem?_map] at hx
    obtain ⟨v, ev, rfl⟩ := Option.map_eq_some_iff.mp hx
    have s := sv i v ev
    have hi := lt_of_get ev
    have hi : i < 3 := hi
    have ok := s.ok
    walk_at "ew"
    refine ⟨v, rfl, ok, ok.row (by have := s.lb; omega), fun r rb hr' => ?_⟩
    have bd := fix_bounds ok rb hr'
    have w := rb.c.wf
    have sb := s.bb
    have sl := s.lb
    have b0 := w.b0
    obtain ⟨S, hS, hSr⟩ := parse_text rb (fun ho => by
      have ol := List.length_pos_iff.mpr ho
      have m : r.offs.getD 0 0 ∈ r.offs := by rw [List.getD_eq_getElem?_getD, List.getElem?_eq_getElem ol]; exact List.getElem_mem ol
      have := w.ow _ m
      omega) (fun ho => by
      by_cases he : r.early = []
      · rw [he]; decide
      · have lm : r.early.getLastD 0 ∈ r.early := by
          rw [List.getLastD_eq_getLast?, List.getLast?_eq_some_getLast he]
          exact List.getLast_mem he
        have := w.er _ lm
        omega)
    have el := rb.el
    have ol := rb.ol
    have tl := text_len rb
    try walk_at "ew"
    refine ⟨_, S, rfl, by omega, hS, fun q qb hq => ⟨by rw [List.length_map]; omega, l ++ [q], by simp, by simp; omega, fun j r' v' e1 e2 => ?_⟩⟩
    by_cases cj : j < l.length
    · rw [List.getElem?_append_left cj] at e1
      exact hr j r' v' e1 e2
    · rw [List.getElem?_append_right (by omega)] at e1
      have j0 : j = i := by
        have := lt_of_get e1
        simp at this
        omega
      subst j0
      rw [hl, Nat.sub_self] at e1
      cases e1
      rw [ev] at e2
      cases e2
      exact ⟨qb, fun t => by rw [hq, hSr, hr']⟩
  · rintro acc ⟨rs, rfl, hl, hr⟩
    have hl : rs.length = 3 := hl
    obtain ⟨r1, r2, r3, rfl⟩ : ∃ r1 r2 r3, rs = [r1, r2, r3] := by
      match rs, hl with
      | [a, b, c], _ => exact ⟨a, b, c, rfl⟩
    try walk_at "ew"
    have a1 := hr 0 r1 v1 rfl rfl
    have a2 := hr 1 r2 v2 rfl rfl
    have a3 := hr 2 r3 v3 rfl rfl
    exact h v1 v2 v3 r1 r2 r3 (sv 0 v1 rfl) (sv 1 v2 rfl) (sv 2 v3 rfl) a1.1 a2.1 a3.1 a1.2 a2.2 a3.2
end TkL


namespace TkL
open PySem PySem.Spec PySem.Calls PyProof.Rows L2 Tk
structure RD (N M : Int) (r : RV) : Prop where
  rb : RB r
  dv : r.len ∣ N
  bm : r.beg ≤ M
theorem RD.per {N M : Int} {r : RV} (h : RD N M r) (hN : 1 ≤ N) : Per r.has M N := by
  obtain ⟨k, hk⟩ := h.dv
  have l1 := h.rb.c.wf.l1
  have k0 : 0 ≤ k := by
    rcases Int.lt_or_le k 0 with z | z
    · have : r.len * k ≤ r.len * 0 := Int.mul_le_mul_of_nonneg_left (by omega) (by omega)
      omega
    · exact z
  have := (qhas_per (e := r.early) (b := r.beg) (o := r.offs) l1).up h.bm
  have := this.mul (by omega) k0
  rw [← hk] at this
  exact this
theorem RD.of {N M : Int} {r : RV} (rb : RB r) (hN : 1 ≤ N) (hM : 0 ≤ M) (p : Per r.has M N) : RD N M r := ⟨rb, rb.dvd hN p, rb.begle hM hN p⟩
theorem lcm_dv {a b N : Int} (ha : 1 ≤ a) (hb : 1 ≤ b) (h1 : a ∣ N) (h2 : b ∣ N) (hN : 1 ≤ N) : lcmI a b ≤ N := by
  have e : lcmI a b = (Int.lcm a b : Int) := by
    have lf := lcm_facts ha hb
    have g := Int.gcd_mul_lcm a b
    have gd : (Int.gcd a b : Int) ∣ a := Int.gcd_dvd_left ..
    obtain ⟨x, hx⟩ := gd
    have g0 : (0 : Int) < Int.gcd a b := by have := lf.1; omega
    unfold lcmI
    have e1 : a / (Int.gcd a b : Int) = x := by
      have : a = (Int.gcd a b : Int) * x := hx
      rw [this]
      have g' : (Int.gcd ((Int.gcd a b : Int) * x) b : Int) = Int.gcd a b := by rw [← this]
      rw [g']
      exact Int.mul_ediv_cancel_left _ (by omega)
    rw [e1]
    have nn : (a * b).natAbs = Int.gcd a b * Int.lcm a b := by rw [Int.natAbs_mul]; exact g.symm
    have ab : (a * b).natAbs = (((Int.gcd a b : Int) * x) * b).natAbs := by rw [← hx]
    have xb : 0 ≤ x * b := by
      have x0 : 0 ≤ x := by
        rcases Int.lt_or_le x 0 with z | z
        · have : (Int.gcd a b : Int) * x ≤ (Int.gcd a b : Int) * 0 := Int.mul_le_mul_of_nonneg_left (by omega) (by omega)
          omega
        · exact z
      exact Int.mul_nonneg x0 (by omega)
    have e2 : (a * b) = (Int.gcd a b : Int) * (x * b) := by rw [← Int.mul_assoc, ← hx]
    have e3 : ((Int.gcd a b : Int) * (x * b)).natAbs = Int.gcd a b * (x * b).natAbs := by rw [Int.natAbs_mul]; rfl
    rw [e2, e3] at nn
    have := Nat.eq_of_mul_eq_mul_left (by omega) nn
    omega
  rw [e]
  have : (Int.lcm a b : Int) ∣ N := by
    rw [Int.ofNat_dvd_left]
    exact Nat.lcm_dvd (Int.natAbs_dvd_natAbs.mpr h1) (Int.natAbs_dvd_natAbs.mpr h2)
  exact Int.le_of_dvd (by omega) this
section
variable {N M : Int} (hN : 1 ≤ N ∧ N ≤ 20000) (hM : 0 ≤ M) {r s : RV} {P : D → Prop}
include hN hM
theorem add_d (a : RD N M r) (b : RD N M s) (h : ∀ q, RD N M q → (∀ t, q.has t = (r.has t || s.has t)) → P (.row q)) : upAdd [.row r, .row s] P := by
  refine ⟨r, s, rfl, ?_, fun q qb hq => h q (RD.of qb hN.1 hM fun t ht => ?_) hq⟩
  · have := lcm_dv a.rb.c.wf.l1 b.rb.c.wf.l1 a.dv b.dv hN.1; omega
  · rw [hq, hq, a.per hN.1 t ht, b.per hN.1 t ht]
theorem and_d (a : RD N M r) (b : RD N M s) (h : ∀ q, RD N M q → (∀ t, q.has t = (r.has t && s.has t)) → P (.row q)) : upAnd [.row r, .row s] P := by
  refine ⟨r, s, rfl, ?_, fun q qb hq => h q (RD.of qb hN.1 hM fun t ht => ?_) hq⟩
  · have := lcm_dv a.rb.c.wf.l1 b.rb.c.wf.l1 a.dv b.dv hN.1; omega
  · rw [hq, hq, a.per hN.1 t ht, b.per hN.1 t ht]
theorem sub_d (a : RD N M r) (b : RD N M s) (h : ∀ q, RD N M q → (∀ t, q.has t = (r.has t && !s.has t)) → P (.row q)) : upSub [.row r, .row s] P := by
  refine ⟨r, s, rfl, ?_, fun q qb hq => h q (RD.of qb hN.1 hM fun t ht => ?_) hq⟩
  · have := lcm_dv a.rb.c.wf.l1 b.rb.c.wf.l1 a.dv b.dv hN.1; omega
  · rw [hq, hq, a.per hN.1 t ht, b.per hN.1 t ht]
end
theorem shift_d {N M k : Int} (hN : 1 ≤ N) (hM : 0 ≤ M) {r : RV} {P : D → Prop} (a : RD N M r) (k0 : 0 ≤ k) (kM : M + k ≤ 100000) (h : ∀ q, RD N (M + k) q → (∀ t, q.has t = r.has (t - k)) → P (.row q)) : upShift [.row r, .int k] P := by
  have := a.bm
  refine ⟨r, k, rfl, k0, by omega, fun q qb hq => h q (RD.of qb hN (by omega) fun t ht => ?_) hq⟩
  rw [hq, hq, a.per hN (t - k) (by omega)]
  congr 1
  omega
theorem e_upEq {r s : RV} {P : D → Prop} (h : P (.bl (decide (r = s)))) : upEq [.row r, .row s] P := ⟨r, s, rfl, h⟩
theorem eq_d {N M N' M' : Int} {r s : RV} (a : RD N M r) (b : RD N' M' s) (h : ∀ t, r.has t = s.has t) : decide (r = s) = true := decide_eq_true (a.rb.ext b.rb h)
theorem eqN_d {N M N' M' : Int} {r s : RV} {P : Bool → Prop} (a : RD N M r) (b : RD N' M' s) (h : ∀ t, r.has t = s.has t) (p : P false) : upEq [.row r, .row s] (fun d => match d with | .bl c => P (!c) | _ => False) := by
  refine e_upEq ?_
  show P (!decide (r = s))
  rw [eq_d a b h]; exact p
theorem eqT_d {N M N' M' : Int} {r s : RV} {P : D → Prop} (a : RD N M r) (b : RD N' M' s) (h : ∀ t, r.has t = s.has t) (p : P (.bl true)) : upEq [.row r, .row s] P := by
  refine e_upEq ?_
  rw [eq_d a b h]; exact p
theorem has_ne {r : RV} (rb : RB r) : decide (0 < (r.early.length : Int) + r.offs.length) = true ↔ ∃ t, r.has t = true := by
  have w := rb.c.wf
  rw [decide_eq_true_iff]
  constructor
  · intro h
    cases he : r.early with
    | cons a l =>
      have m : a ∈ r.early := by rw [he]; simp
      exact ⟨a, by rw [RV.has_lo (w.er a m).2]; exact decide_eq_true m⟩
    | nil =>
      cases ho : r.offs with
      | cons a l =>
        have m : a ∈ r.offs := by rw [ho]; simp
        have := w.ow a m
        exact ⟨r.beg + a, by rw [RV.has_off w this.1 this.2]; exact decide_eq_true m⟩
      | nil => rw [he, ho] at h; simp at h
  · rintro ⟨t, ht⟩
    rcases Int.lt_or_le t r.beg with q | q
    · rw [RV.has_lo q] at ht
      have := List.length_pos_of_mem (of_decide_eq_true ht)
      omega
    · rw [RV.has_hi q] at ht
      have := List.length_pos_of_mem (of_decide_eq_true ht)
      omega
theorem bool_i {r : RV} {P : D → Prop} (rb : RB r) (h : ∀ c, (c = true ↔ ∃ t, r.has t = true) → P (.bl c)) : upBool [.row r] P := ⟨r, rfl, h _ (has_ne rb)⟩
theorem endless_i {r : RV} {P : D → Prop} (h : P (.bl (decide (r.offs ≠ [])))) : upEndless [.row r] P := ⟨r, rfl, h⟩
theorem call_i {r : RV} {t : Int} {P : D → Prop} (h0 : 0 ≤ t) (h1 : t ≤ 1000000000000000000) (h : P (.int (r.count t))) : upCall [.row r, .int t] P := ⟨r, t, rfl, h0, h1, h⟩
theorem has_i {r : RV} {t : Int} {P : D → Prop} (h0 : 0 ≤ t) (h1 : t ≤ 1000000000000000000) (h : P (.bl (r.has t))) : upContains [.row r, .int t] P := ⟨r, _, rfl, .inl ⟨t, rfl, by rw [decide_eq_true h0, decide_eq_true h1]; exact h⟩⟩
theorem item_i {r : RV} {n : Int} {P : D → Prop} (h0 : 0 ≤ n) (h1 : n ≤ 1000000000000000000) (h2 : n < r.early.length ∨ r.offs ≠ []) (h : P (.int (r.nth n))) : upItem [.row r, .int n] P := ⟨r, n, rfl, h0, h1, h2, h⟩
theorem within_i {r s : RV} {P : D → Prop} (h : ∀ c, (c = true ↔ fitsB r s 0) → P (.bl c)) : upWithin [.row r, .row s] P := ⟨r, s, rfl, h⟩
theorem e_qUpIn {neg : Bool} {up : UP} {n : Int} {r : RV} {P : D → Prop} : qUpIn neg up (.int n) (.row r) P ↔ up [.row r, .int n] (fun d => match d with | .bl c => P (.bl (if neg then !c else c)) | _ => False) := ⟨fun h => h.2, fun h => ⟨rfl, h⟩⟩
theorem gBoolO_i {up : UP} {r : RV} {P : D → Prop} : gBoolO up [.row r] P = up [.row r] (fun d => match d with | .bl c => P (.bl c) | _ => False) := rfl
end TkL


namespace TkL
open PySem PySem.Spec PySem.Calls PyProof.Rows L2 Tk
def tyD : D → Option String
  | .int _ => some "int" | .bl _ => some "bool" | .str _ => some "str" | .non => some "NoneType" | .tup _ => some "tuple" | .lst _ => some "list" | _ => none
def isiD (d : D) (T : String) : Option Bool := match tyD d with | some a => kitB a T | none => none
def uIsi (T : String) (a : UE) : UE := fun ρ Q => a ρ fun x ρ1 => ∃ b, isiD x T = some b ∧ Q (.bl b) ρ1
section
variable {B : Bs} {t : TE} {u : UE}
theorem RepW.tyX {H F : Hp} {v : V} {d : D} {T : String} (R : RelH B H F) (h : RepW B F H v d) (e : tyD d = some T) : TyX B.K H v (.type T) := by
  cases d with
  | int i => cases e; cases h; exact .base (.int _)
  | bl i => cases e; cases h; exact .base (.bl _)
  | str i => cases e; cases h; exact .base (.str _)
  | non => cases e; cases h; exact .base .non
  | tup l =>
    cases e
    obtain ⟨p, vs, rfl, a, b, c⟩ := h.tup R
    rcases a with a | ⟨o, its, n, a, b, _⟩
    · rcases a with a | ⟨o, a⟩
      · exact .base (.tup a)
      · exact .fTuple a
    · exact .kTuple a b
  | lst l =>
    cases e
    obtain ⟨p, vs, rfl, _, a, b⟩ := h
    exact .base (.lst a)
  | _ => cases e
theorem sE_isi {T : String} (ha : SimW B t u) : SimE B (tCB (kIsi B.K) (tCons t (tCons (tC (.ty T)) tNil))) (uIsi T u) := fun H F σ ρ Q P R hu k =>
  ha H F σ ρ _ _ R hu fun H1 F1 x dx ρ1 e1 k1 R1 r1 p1 => by
    obtain ⟨b, hb, p⟩ := p1
    unfold isiD at hb
    cases h : tyD dx with
    | none => rw [h] at hb; cases hb
    | some a =>
      rw [h] at hb
      exact ⟨x, _, _, _, b, rfl, .ty T, r1.tyX R1.toRelH h, L2.kit_ty hb, k H1 F1 _ _ ρ1 e1 k1 R1 .bl p⟩
def qIx : U2 := fun x y P => match x, y with | .lst l, .int n => qIxL (.lst l) (.int n) P | .tup l, .int n => qIxT (.tup l) (.int n) P | _, _ => False
theorem s2_ix : Sim2 B (rIx B.K) qIx := fun H F x y dx dy Q P R rx ry hq k => by
  unfold qIx at hq
  split at hq
  · exact .inl (s2_ixL H F x y _ _ Q P R rx ry hq k)
  · exact .inr (.inl (s2_ixT H F x y _ _ Q P R rx ry hq k))
  · exact hq.elim
end
def PlD : Nat → D → Prop
  | _, .int _ => True
  | _, .bl _ => True
  | _, .str _ => True
  | _, .non => True
  | n + 1, .tup l => l.length ≤ 1000 ∧ ∀ x ∈ l, PlD n x
  | n + 1, .lst l => l.length ≤ 1000 ∧ ∀ x ∈ l, PlD n x
  | _, _ => False
def upEqualN (n : Nat) : UP := fun ds P => ∃ a e, ds = [a, e] ∧ PlD n a ∧ PlD n e ∧ ∀ c, (c = true ↔ a = e) → P (.bl c)
def upEqual0 : Nat → UP
  | 0 => fun _ _ => False
  | n + 1 => upEqualN n
abbrev upEqual : UP := upEqualN 3
theorem e_isi {T : String} {a : UE} {ρ : Env} {Q : D → Env → Prop} : uIsi T a ρ Q = a ρ fun x ρ1 => ∃ b, isiD x T = some b ∧ Q (.bl b) ρ1 := rfl
theorem ix_i {d e : D} {P : D → Prop} (l : List D) (he : d = .lst l ∨ d = .tup l) {k : Nat} (hk : l[k]? = some e) (h : P e) : qIx d (.int k) P := by
  rcases he with rfl | rfl
  · exact ⟨_, atI_c hk, h⟩
  · exact ⟨_, atI_c hk, h⟩
theorem all_i {l : List Bool} {P : D → Prop} (h : P (.bl (l.all id))) : gAll [.lst (bL l)] P := ⟨l, rfl, h⟩
theorem isn_i {x : D} {P : D → Prop} (h : P (.bl (isNonD x))) : qIsNon x .non P := h
theorem PlD.up {n : Nat} {d : D} (h : PlD (n + 1) d) : PlD (n + 1) d := h
theorem is_int_bool {i : Int} {Q : Bool → Prop} : (∃ b, isiD (.int i) "bool" = some b ∧ Q b) ↔ Q false := ⟨fun ⟨b, e, h⟩ => by rw [show isiD (.int i) "bool" = some false from (show kitB "int" "bool" = some false by decide +kernel)] at e; cases e; exact h, fun h => ⟨_, show kitB "int" "bool" = some false by decide +kernel, h⟩⟩
theorem is_int_int {i : Int} {Q : Bool → Prop} : (∃ b, isiD (.int i) "int" = some b ∧ Q b) ↔ Q true := ⟨fun ⟨b, e, h⟩ => by rw [show isiD (.int i) "int" = some true from (show kitB "int" "int" = some true by decide +kernel)] at e; cases e; exact h, fun h => ⟨_, show kitB "int" "int" = some true by decide +kernel, h⟩⟩
theorem is_int_str {i : Int} {Q : Bool → Prop} : (∃ b, isiD (.int i) "str" = some b ∧ Q b) ↔ Q false := ⟨fun ⟨b, e, h⟩ => by rw [show isiD (.int i) "str" = some false from (show kitB "int" "str" = some false by decide +kernel)] at e; cases e; exact h, fun h => ⟨_, show kitB "int" "str" = some false by decide +kernel, h⟩⟩
theorem is_int_tuple {i : Int} {Q : Bool → Prop} : (∃ b, isiD (.int i) "tuple" = some b ∧ Q b) ↔ Q false := ⟨fun ⟨b, e, h⟩ => by rw [show isiD (.int i) "tuple" = some false from (show kitB "int" "tuple" = some false by decide +kernel)] at e; cases e; exact h, fun h => ⟨_, show kitB "int" "tuple" = some false by decide +kernel, h⟩⟩
theorem is_int_list {i : Int} {Q : Bool → Prop} : (∃ b, isiD (.int i) "list" = some b ∧ Q b) ↔ Q false := ⟨fun ⟨b, e, h⟩ => by rw [show isiD (.int i) "list" = some false from (show kitB "int" "list" = some false by decide +kernel)] at e; cases e; exact h, fun h => ⟨_, show kitB "int" "list" = some false by decide +kernel, h⟩⟩
theorem is_bl_bool {i : Bool} {Q : Bool → Prop} : (∃ b, isiD (.bl i) "bool" = some b ∧ Q b) ↔ Q true := ⟨fun ⟨b, e, h⟩ => by rw [show isiD (.bl i) "bool" = some true from (show kitB "bool" "bool" = some true by decide +kernel)] at e; cases e; exact h, fun h => ⟨_, show kitB "bool" "bool" = some true by decide +kernel, h⟩⟩
theorem is_bl_int {i : Bool} {Q : Bool → Prop} : (∃ b, isiD (.bl i) "int" = some b ∧ Q b) ↔ Q true := ⟨fun ⟨b, e, h⟩ => by rw [show isiD (.bl i) "int" = some true from (show kitB "bool" "int" = some true by decide +kernel)] at e; cases e; exact h, fun h => ⟨_, show kitB "bool" "int" = some true by decide +kernel, h⟩⟩
theorem is_bl_str {i : Bool} {Q : Bool → Prop} : (∃ b, isiD (.bl i) "str" = some b ∧ Q b) ↔ Q false := ⟨fun ⟨b, e, h⟩ => by rw [show isiD (.bl i) "str" = some false from (show kitB "bool" "str" = some false by decide +kernel)] at e; cases e; exact h, fun h => ⟨_, show kitB "bool" "str" = some false by decide +kernel, h⟩⟩
theorem is_bl_tuple {i : Bool} {Q : Bool → Prop} : (∃ b, isiD (.bl i) "tuple" = some b ∧ Q b) ↔ Q false := ⟨fun ⟨b, e, h⟩ => by rw [show isiD (.bl i) "tuple" = some false from (show kitB "bool" "tuple" = some false by decide +kernel)] at e; cases e; exact h, fun h => ⟨_, show kitB "bool" "tuple" = some false by decide +kernel, h⟩⟩
theorem is_bl_list {i : Bool} {Q : Bool → Prop} : (∃ b, isiD (.bl i) "list" = some b ∧ Q b) ↔ Q false := ⟨fun ⟨b, e, h⟩ => by rw [show isiD (.bl i) "list" = some false from (show kitB "bool" "list" = some false by decide +kernel)] at e; cases e; exact h, fun h => ⟨_, show kitB "bool" "list" = some false by decide +kernel, h⟩⟩
theorem is_str_bool {i : Str} {Q : Bool → Prop} : (∃ b, isiD (.str i) "bool" = some b ∧ Q b) ↔ Q false := ⟨fun ⟨b, e, h⟩ => by rw [show isiD (.str i) "bool" = some false from (show kitB "str" "bool" = some false by decide +kernel)] at e; cases e; exact h, fun h => ⟨_, show kitB "str" "bool" = some false by decide +kernel, h⟩⟩
theorem is_str_int {i : Str} {Q : Bool → Prop} : (∃ b, isiD (.str i) "int" = some b ∧ Q b) ↔ Q false := ⟨fun ⟨b, e, h⟩ => by rw [show isiD (.str i) "int" = some false from (show kitB "str" "int" = some false by decide +kernel)] at e; cases e; exact h, fun h => ⟨_, show kitB "str" "int" = some false by decide +kernel, h⟩⟩
theorem is_str_str {i : Str} {Q : Bool → Prop} : (∃ b, isiD (.str i) "str" = some b ∧ Q b) ↔ Q true := ⟨fun ⟨b, e, h⟩ => by rw [show isiD (.str i) "str" = some true from (show kitB "str" "str" = some true by decide +kernel)] at e; cases e; exact h, fun h => ⟨_, show kitB "str" "str" = some true by decide +kernel, h⟩⟩
theorem is_str_tuple {i : Str} {Q : Bool → Prop} : (∃ b, isiD (.str i) "tuple" = some b ∧ Q b) ↔ Q false := ⟨fun ⟨b, e, h⟩ => by rw [show isiD (.str i) "tuple" = some false from (show kitB "str" "tuple" = some false by decide +kernel)] at e; cases e; exact h, fun h => ⟨_, show kitB "str" "tuple" = some false by decide +kernel, h⟩⟩
theorem is_str_list {i : Str} {Q : Bool → Prop} : (∃ b, isiD (.str i) "list" = some b ∧ Q b) ↔ Q false := ⟨fun ⟨b, e, h⟩ => by rw [show isiD (.str i) "list" = some false from (show kitB "str" "list" = some false by decide +kernel)] at e; cases e; exact h, fun h => ⟨_, show kitB "str" "list" = some false by decide +kernel, h⟩⟩
theorem is_non_bool  {Q : Bool → Prop} : (∃ b, isiD (.non) "bool" = some b ∧ Q b) ↔ Q false := ⟨fun ⟨b, e, h⟩ => by rw [show isiD (.non) "bool" = some false from (show kitB "NoneType" "bool" = some false by decide +kernel)] at e; cases e; exact h, fun h => ⟨_, show kitB "NoneType" "bool" = some false by decide +kernel, h⟩⟩
theorem is_non_int  {Q : Bool → Prop} : (∃ b, isiD (.non) "int" = some b ∧ Q b) ↔ Q false := ⟨fun ⟨b, e, h⟩ => by rw [show isiD (.non) "int" = some false from (show kitB "NoneType" "int" = some false by decide +kernel)] at e; cases e; exact h, fun h => ⟨_, show kitB "NoneType" "int" = some false by decide +kernel, h⟩⟩
theorem is_non_str  {Q : Bool → Prop} : (∃ b, isiD (.non) "str" = some b ∧ Q b) ↔ Q false := ⟨fun ⟨b, e, h⟩ => by rw [show isiD (.non) "str" = some false from (show kitB "NoneType" "str" = some false by decide +kernel)] at e; cases e; exact h, fun h => ⟨_, show kitB "NoneType" "str" = some false by decide +kernel, h⟩⟩
theorem is_non_tuple  {Q : Bool → Prop} : (∃ b, isiD (.non) "tuple" = some b ∧ Q b) ↔ Q false := ⟨fun ⟨b, e, h⟩ => by rw [show isiD (.non) "tuple" = some false from (show kitB "NoneType" "tuple" = some false by decide +kernel)] at e; cases e; exact h, fun h => ⟨_, show kitB "NoneType" "tuple" = some false by decide +kernel, h⟩⟩
theorem is_non_list  {Q : Bool → Prop} : (∃ b, isiD (.non) "list" = some b ∧ Q b) ↔ Q false := ⟨fun ⟨b, e, h⟩ => by rw [show isiD (.non) "list" = some false from (show kitB "NoneType" "list" = some false by decide +kernel)] at e; cases e; exact h, fun h => ⟨_, show kitB "NoneType" "list" = some false by decide +kernel, h⟩⟩
theorem is_tup_bool {i : List D} {Q : Bool → Prop} : (∃ b, isiD (.tup i) "bool" = some b ∧ Q b) ↔ Q false := ⟨fun ⟨b, e, h⟩ => by rw [show isiD (.tup i) "bool" = some false from (show kitB "tuple" "bool" = some false by decide +kernel)] at e; cases e; exact h, fun h => ⟨_, show kitB "tuple" "bool" = some false by decide +kernel, h⟩⟩
theorem is_tup_int {i : List D} {Q : Bool → Prop} : (∃ b, isiD (.tup i) "int" = some b ∧ Q b) ↔ Q false := ⟨fun ⟨b, e, h⟩ => by rw [show isiD (.tup i) "int" = some false from (show kitB "tuple" "int" = some false by decide +kernel)] at e; cases e; exact h, fun h => ⟨_, show kitB "tuple" "int" = some false by decide +kernel, h⟩⟩
theorem is_tup_str {i : List D} {Q : Bool → Prop} : (∃ b, isiD (.tup i) "str" = some b ∧ Q b) ↔ Q false := ⟨fun ⟨b, e, h⟩ => by rw [show isiD (.tup i) "str" = some false from (show kitB "tuple" "str" = some false by decide +kernel)] at e; cases e; exact h, fun h => ⟨_, show kitB "tuple" "str" = some false by decide +kernel, h⟩⟩
theorem is_tup_tuple {i : List D} {Q : Bool → Prop} : (∃ b, isiD (.tup i) "tuple" = some b ∧ Q b) ↔ Q true := ⟨fun ⟨b, e, h⟩ => by rw [show isiD (.tup i) "tuple" = some true from (show kitB "tuple" "tuple" = some true by decide +kernel)] at e; cases e; exact h, fun h => ⟨_, show kitB "tuple" "tuple" = some true by decide +kernel, h⟩⟩
theorem is_tup_list {i : List D} {Q : Bool → Prop} : (∃ b, isiD (.tup i) "list" = some b ∧ Q b) ↔ Q false := ⟨fun ⟨b, e, h⟩ => by rw [show isiD (.tup i) "list" = some false from (show kitB "tuple" "list" = some false by decide +kernel)] at e; cases e; exact h, fun h => ⟨_, show kitB "tuple" "list" = some false by decide +kernel, h⟩⟩
theorem is_lst_bool {i : List D} {Q : Bool → Prop} : (∃ b, isiD (.lst i) "bool" = some b ∧ Q b) ↔ Q false := ⟨fun ⟨b, e, h⟩ => by rw [show isiD (.lst i) "bool" = some false from (show kitB "list" "bool" = some false by decide +kernel)] at e; cases e; exact h, fun h => ⟨_, show kitB "list" "bool" = some false by decide +kernel, h⟩⟩
theorem is_lst_int {i : List D} {Q : Bool → Prop} : (∃ b, isiD (.lst i) "int" = some b ∧ Q b) ↔ Q false := ⟨fun ⟨b, e, h⟩ => by rw [show isiD (.lst i) "int" = some false from (show kitB "list" "int" = some false by decide +kernel)] at e; cases e; exact h, fun h => ⟨_, show kitB "list" "int" = some false by decide +kernel, h⟩⟩
theorem is_lst_str {i : List D} {Q : Bool → Prop} : (∃ b, isiD (.lst i) "str" = some b ∧ Q b) ↔ Q false := ⟨fun ⟨b, e, h⟩ => by rw [show isiD (.lst i) "str" = some false from (show kitB "list" "str" = some false by decide +kernel)] at e; cases e; exact h, fun h => ⟨_, show kitB "list" "str" = some false by decide +kernel, h⟩⟩
theorem is_lst_tuple {i : List D} {Q : Bool → Prop} : (∃ b, isiD (.lst i) "tuple" = some b ∧ Q b) ↔ Q false := ⟨fun ⟨b, e, h⟩ => by rw [show isiD (.lst i) "tuple" = some false from (show kitB "list" "tuple" = some false by decide +kernel)] at e; cases e; exact h, fun h => ⟨_, show kitB "list" "tuple" = some false by decide +kernel, h⟩⟩
theorem is_lst_list {i : List D} {Q : Bool → Prop} : (∃ b, isiD (.lst i) "list" = some b ∧ Q b) ↔ Q true := ⟨fun ⟨b, e, h⟩ => by rw [show isiD (.lst i) "list" = some true from (show kitB "list" "list" = some true by decide +kernel)] at e; cases e; exact h, fun h => ⟨_, show kitB "list" "list" = some true by decide +kernel, h⟩⟩
def qRepA : U2 := fun x y P => match x, y with | .tup l, .int k => (l ≠ [] ∧ 1 ≤ k ∧ k ≤ 1000 ∧ l.length ≤ 1000) ∧ P (.tup (List.replicate k.toNat l).flatten) | _, _ => False
theorem s2_RepA {B : Bs} : Sim2 B (rRepA B.K) qRepA := fun H F x y dx dy Q P R rx ry hq k => by
  unfold qRepA at hq
  split at hq
  · rename_i l n
    obtain ⟨⟨h1, h2, h3, h4⟩, p⟩ := hq
    by_cases c : n = 1
    · subst c
      have e : (List.replicate (1 : Int).toNat l).flatten = l := by show (List.replicate 1 l).flatten = l; simp
      rw [e] at p
      obtain ⟨q, vs, rfl, a, b, d⟩ := rx.tup R
      cases ry
      exact .inr ⟨q, vs, rfl, rfl, a, k H F _ _ .refl (.tup d b) p⟩
    · exact .inl (s2_RepT H F x y _ _ Q P R rx ry ⟨⟨h1, by omega, h3, h4⟩, p⟩ k)
  · exact hq.elim
end TkL


namespace TkL
open PySem PySem.Spec PySem.Calls PyProof.Rows L2 Tk
def upEqS : UP := fun ds P => ∃ r z, ds = [.row r, .str z] ∧ P (.bl false)
theorem ad_eqS {K : PySem.W.Frag} {C : Addr} {vs : List V} {H : Hp} {Q : VK} {E : XK} (h : spU K C upEqS vs H Q E) : spEqS K C vs H Q E := by
  obtain ⟨dO, F, ds, P, R, r, ⟨x, t, rfl, p⟩, k⟩ := h
  cases r with | cons a r => cases r with | cons b r => cases r; cases a with | row ra => cases b; exact ⟨_, _, _, rfl, ra.ex' R.fh, k _ H _ _ p R .bl⟩
def qUpS (up : UP) : U2 := fun x y P => match x, y with | .row _, .str _ => up [x, y] P | _, _ => False
theorem s2_ownS {B : Bs} {up : UP} : Sim2 B (rOwnS B.C (spU B.K B.C up) E0) (qUpS up) := fun H F x y dx dy Q P R rx ry hq k => by
  unfold qUpS at hq
  split at hq
  · obtain ⟨a, rfl, ra⟩ := rx.row R
    cases ry
    obtain ⟨dx, fs, ha⟩ := ra.ob
    exact ⟨a, dx, fs, _, rfl, rfl, R.fh _ _ ha, spU_call R (.cons (.row ra) (.cons .str .nil)) hq k⟩
  · exact hq.elim
theorem eqS_str {r : RV} {z : Str} {P : D → Prop} (h : P (.bl false)) : qUpS upEqS (.row r) (.str z) P := ⟨r, z, rfl, h⟩
end TkL


namespace TkL
open PySem PySem.Spec PySem.Calls PyProof.Rows L2 Tk
def uFB (a : UE) : UE := fun ρ Q => a ρ fun x ρ1 => match x with | .row r => Q (.int r.beg) ρ1 | _ => False
def uFL (a : UE) : UE := fun ρ Q => a ρ fun x ρ1 => match x with | .row r => Q (.int r.len) ρ1 | _ => False
def uFE (a : UE) : UE := fun ρ Q => a ρ fun x ρ1 => match x with | .row r => Q (.tup (iL r.early)) ρ1 | _ => False
def uFO (a : UE) : UE := fun ρ Q => a ρ fun x ρ1 => match x with | .row r => Q (.tup (iL r.offs)) ρ1 | _ => False
section
variable {B : Bs} {t : TE} {u : UE}
theorem sE_fB (T : TyF B.K B.C) (ha : SimW B t u) : SimE B (tFld B.K t "begin") (uFB u) := fun H F σ ρ Q P R hu k =>
  ha H F σ ρ _ _ R hu fun H1 F1 x dx ρ1 e1 k1 R1 r1 p1 => by
    split at p1
    · obtain ⟨a, rfl, ra⟩ := r1.row R1.toRelH
      obtain ⟨dx, p1', p2, p3, p4, I⟩ := ra
      exact ⟨a, _, dx, _, _, rfl, R1.fh _ _ I.ob, T.cl, T.begin_, lk_begin, k H1 F1 _ _ ρ1 e1 k1 R1 .int p1⟩
    · exact p1.elim
theorem sE_fL (T : TyF B.K B.C) (ha : SimW B t u) : SimE B (tFld B.K t "length") (uFL u) := fun H F σ ρ Q P R hu k =>
  ha H F σ ρ _ _ R hu fun H1 F1 x dx ρ1 e1 k1 R1 r1 p1 => by
    split at p1
    · obtain ⟨a, rfl, ra⟩ := r1.row R1.toRelH
      obtain ⟨dx, p1', p2, p3, p4, I⟩ := ra
      exact ⟨a, _, dx, _, _, rfl, R1.fh _ _ I.ob, T.cl, T.length, lk_length, k H1 F1 _ _ ρ1 e1 k1 R1 .int p1⟩
    · exact p1.elim
theorem sE_fE (T : TyF B.K B.C) (ha : SimW B t u) : SimE B (tFld B.K t "early") (uFE u) := fun H F σ ρ Q P R hu k =>
  ha H F σ ρ _ _ R hu fun H1 F1 x dx ρ1 e1 k1 R1 r1 p1 => by
    split at p1
    · obtain ⟨a, rfl, ra⟩ := r1.row R1.toRelH
      obtain ⟨dx, p1', p2, p3, p4, I⟩ := ra
      exact ⟨a, _, dx, _, _, rfl, R1.fh _ _ I.ob, T.cl, T.early, lk_early, k H1 F1 _ _ ρ1 e1 k1 R1 (.tup I.e (Reps.ofInts _)) p1⟩
    · exact p1.elim
theorem sE_fO (T : TyF B.K B.C) (ha : SimW B t u) : SimE B (tFld B.K t "offsets") (uFO u) := fun H F σ ρ Q P R hu k =>
  ha H F σ ρ _ _ R hu fun H1 F1 x dx ρ1 e1 k1 R1 r1 p1 => by
    split at p1
    · obtain ⟨a, rfl, ra⟩ := r1.row R1.toRelH
      obtain ⟨dx, p1', p2, p3, p4, I⟩ := ra
      exact ⟨a, _, dx, _, _, rfl, R1.fh _ _ I.ob, T.cl, T.offsets, lk_offsets, k H1 F1 _ _ ρ1 e1 k1 R1 (.tup I.o (Reps.ofInts _)) p1⟩
    · exact p1.elim
def uNever : US := fun _ _ => False
theorem sS_never : SimS B tNever uNever := fun H F σ ρ D1 P R hu k => hu.elim
end
section
variable {P : UEnds} {ρ : Env} {a : UE} {Q : D → Env → Prop} {r : RV}
theorem e_fB : uFB a ρ Q = a ρ fun x ρ1 => match x with | .row r => Q (.int r.beg) ρ1 | _ => False := rfl
theorem e_fL : uFL a ρ Q = a ρ fun x ρ1 => match x with | .row r => Q (.int r.len) ρ1 | _ => False := rfl
theorem e_fE : uFE a ρ Q = a ρ fun x ρ1 => match x with | .row r => Q (.tup (iL r.early)) ρ1 | _ => False := rfl
theorem e_fO : uFO a ρ Q = a ρ fun x ρ1 => match x with | .row r => Q (.tup (iL r.offs)) ρ1 | _ => False := rfl
theorem e_never : uNever P ρ = False := rfl
theorem e_enum {A : UA} {Qi : List D → Env → Prop} : uEnum A ρ Qi = A ρ fun ds ρ1 => match ds with | [.lst l] => Qi (enD l) ρ1 | [.tup l] => Qi (enD l) ρ1 | _ => False := rfl
theorem e_rng3 {A : UA} {Qi : List D → Env → Prop} : uIRng3 A ρ Qi = A ρ fun ds ρ1 => ∃ (i j c : Int) (n : Nat), ds = [.int i, .int j, .int c] ∧ RgC i j c n ∧ Qi (rngCD i c n) ρ1 := rfl
theorem e_ext {i : Nat} : uExt i a P ρ = ((∃ l0, ρ[i]? = some (.own l0)) ∧ a ρ fun d ρ1 => ∃ l m, ρ1[i]? = some (.own l) ∧ d = .lst m ∧ l.length + m.length ≤ 1000000 ∧ P.nx (ρ1.set i (.own (l ++ m)))) := rfl
end
def upNormal : UP := fun ds P => ∃ e b l o x, ds = [.lst (iL e), .int b, .int l, x] ∧ (x = .lst (iL o) ∨ x = .tup (iL o)) ∧ WF e b l o ∧ b ≤ 200000 ∧ l ≤ 20000 ∧ ∀ q, RB q → (∀ t, q.has t = qhas e b l o t) → P (.row q)
def upIii : UP := fun ds P => ∃ x lo hi, ds = [x, .int lo, .int hi] ∧ ((∃ i, x = .int i ∧ P (.bl (decide (lo ≤ i) && decide (i ≤ hi)))) ∨ ((∃ b, x = .bl b) ∨ x = .non ∨ ∃ z, x = .str z) ∧ P (.bl false))
def upGcd : UP := fun ds P => ∃ a b : Int, ds = [.int a, .int b] ∧ 0 < a ∧ 0 ≤ b ∧ a < 1073741824 ∧ b < 1073741824 ∧ P (.int (Int.gcd a b))
section
variable {K : PySem.W.Frag} {C : Addr} {H : Hp} {vs : List V} {Q : VK} {E : XK}
theorem ad_normal (h : spU K C upNormal vs H Q E) : spNormal K C vs H Q E := by
  obtain ⟨dO, F, ds, P, R, r, ⟨e, b, l, o, x, rfl, hx, w, hb, hl, p⟩, k⟩ := h
  cases r with | cons a r => cases r with | cons b' r => cases r with | cons c r => cases r with | cons d r =>
    cases r; cases b'; cases c
    cases a with
    | lst h1 h2 =>
      have z1 := h2.ints
      subst z1
      have key : ∀ po, Seq K H po (zI o) → spNormal K C [.ref _, .int b, .int l, .ref po] H Q E := fun po s =>
        ⟨_, po, e, b, l, o, rfl, lOf (R.fh _ _ h1), s, w, hb, hl, fun H' c q e hc rq hq => k _ H' _ _ (p q rq.rb hq) (retE R e) (.row (rowE R e rq))⟩
      rcases hx with rfl | rfl
      · cases d with
        | lst h3 h4 =>
          have z2 := h4.ints
          subst z2
          exact key _ (.inl (lOf (R.fh _ _ h3)))
      · cases d with
        | tup h3 h4 =>
          have z2 := h4.ints
          subst z2
          exact key _ (.inr (R.fh.sqT h3))
theorem ad_iii (h : spU K C upIii vs H Q E) : spIii vs H Q E := by
  obtain ⟨dO, F, ds, P, R, r, ⟨x, lo, hi, rfl, p⟩, k⟩ := h
  cases r with | cons a r => cases r with | cons b r => cases r with | cons c r =>
    cases r; cases b; cases c
    rcases p with ⟨i, rfl, p⟩ | ⟨⟨y, rfl⟩ | rfl | ⟨y, rfl⟩, p⟩
    · cases a; exact ⟨_, _, _, rfl, .inl ⟨_, rfl, k _ H _ _ p R .bl⟩⟩
    · cases a; exact ⟨_, _, _, rfl, .inr ⟨.inl ⟨_, rfl⟩, k _ H _ _ p R .bl⟩⟩
    · cases a; exact ⟨_, _, _, rfl, .inr ⟨.inr (.inl rfl), k _ H _ _ p R .bl⟩⟩
    · cases a; exact ⟨_, _, _, rfl, .inr ⟨.inr (.inr ⟨_, rfl⟩), k _ H _ _ p R .bl⟩⟩
theorem ad_gcd (h : spU K C upGcd vs H Q E) : spGcd vs H Q E := by
  obtain ⟨dO, F, ds, P, R, r, ⟨x, y, rfl, h0, h1, h2, h3, p⟩, k⟩ := h
  cases r with | cons a r => cases r with | cons b r => cases r; cases a; cases b; exact ⟨_, _, rfl, h0, h1, h2, h3, k _ H _ _ p R .int⟩
end
theorem iii_i {t lo hi : Int} {P : D → Prop} (h0 : lo ≤ t) (h1 : t ≤ hi) (h : P (.bl true)) : upIii [.int t, .int lo, .int hi] P := ⟨_, _, _, rfl, .inl ⟨_, rfl, by rw [decide_eq_true h0, decide_eq_true h1]; exact h⟩⟩
theorem gcd_i {a b : Int} {P : D → Prop} (h0 : 0 < a) (h1 : 0 ≤ b) (h2 : a < 1073741824) (h3 : b < 1073741824) (h : P (.int (Int.gcd a b))) : upGcd [.int a, .int b] P := ⟨a, b, rfl, h0, h1, h2, h3, h⟩
end TkL


namespace TkL
open PySem PySem.Spec PySem.Calls PyProof.Rows L2
section
variable {X : Cx}
theorem get_list : PGet X (rIxL X.K) := by
  intro pins s σ H o i ov iv Q I ro ri h
  obtain ⟨p, xs, k, v, rfl, rfl, hq, he, q⟩ := h
  cases ro
  obtain ⟨t, rfl⟩ := ri
  obtain ⟨its, r, pl, hz⟩ := I.list hq
  obtain ⟨j, h1, h2, h3, h4, h5⟩ := L2.atI_get he
  obtain ⟨w, ew, rw'⟩ := r.get h2
  have hl := r.length
  have hn := line63
  have fin : EP X pins σ Q w s := ⟨v, H, I, rw', q⟩
  by_cases h0 : 0 ≤ k
  · have hj : k.toNat = j := by
      rw [seqIndex_of h0 h5] at h1
      exact Option.some.inj h1
    exact wpAny_getItem_list pl.isList h0 (by omega) (by rw [hj]; simpa using ew) fin
  · have hj : (k + (its.toArray.size : Int)).toNat = j := by
      rw [seqIndex_neg (by omega) h4] at h1
      rw [List.size_toArray, ← hl]
      exact Option.some.inj h1
    exact wpAny_getItem_list_neg pl.isList (by omega) (by rw [List.size_toArray] <;> omega) (by omega) (by rw [hj]; simpa using ew) fin
end
end TkL


namespace TkL
open PySem PySem.Spec PySem.Calls PyProof.Rows L2 Tk
def uAugI (i : Nat) (a b : UE) (f : Int → Int → Int) : US := fun P ρ => (∃ l0, ρ[i]? = some (.own l0)) ∧ a ρ fun x ρ1 => ∃ l k j n, ρ1[i]? = some (.own l) ∧ x = .int k ∧ ixN l.length k = some j ∧ l[j]? = some (.int n) ∧ b ρ1 fun y ρ2 => ∃ m l2, y = .int m ∧ ρ2[i]? = some (.own l2) ∧ ixN l2.length k = some j ∧ P.nx (ρ2.set i (.own (l2.set j (.int (f n m)))))
section
variable {B : Bs} {ta tb : TE} {ua ub : UE} {i : Nat} {f : Int → Int → Int}
theorem sS_augI (ha : SimW B ta ua) (hb : SimW B tb ub) : SimS B (tAugS (tVar i) ta tb (rIxL B.K) (ipI f) rSetL) (uAugI i ua ub f) := fun H F σ ρ D1 P R hu k => by
  obtain ⟨⟨l0, e0⟩, hu⟩ := hu
  obtain ⟨p, vs0, a, _, _, d0, _⟩ := R.own i l0 e0
  refine ⟨_, a, ha H F σ ρ _ _ R hu fun H2 F2 x dx ρ2 e2 k2 R2 r2 p2 => ?_⟩
  obtain ⟨l, n, j, m, e3, rfl, hj, hl, p2⟩ := p2
  cases r2
  obtain ⟨p', vs, a', b, c, dd, g⟩ := R2.own i l e3
  rw [a] at a'
  cases a'
  obtain ⟨v, h1, h2⟩ := g.get' hl
  cases h2
  refine ⟨p, vs, _, .int m, rfl, rfl, lOf dd, ?_, ?_⟩
  · show (ixN vs.length n).bind _ = _
    rw [g.len, hj]; exact h1
  · refine hb H2 F2 σ ρ2 _ _ R2 p2 fun H3 F3 y dy ρ3 e4 k3 R3 r3 p3 => ?_
    obtain ⟨q, l2, rfl, e5, hj2, p3⟩ := p3
    cases r3
    refine ⟨_, _, rfl, rfl, ?_⟩
    obtain ⟨p', vs', a', b', c', dd', g'⟩ := R3.own i l2 e5
    rw [a] at a'
    cases a'
    refine ⟨p, vs', _, j, rfl, rfl, dd', by rw [g'.len]; exact hj2, k.nx _ _ _ _ (e2.trans e4) ?_ p3⟩
    exact R3.mut e5 a (g'.setAt j .int)
end
section
variable {P : UEnds} {ρ : Env} {a b : UE} {i : Nat} {f : Int → Int → Int}
theorem e_augI : uAugI i a b f P ρ = ((∃ l0, ρ[i]? = some (.own l0)) ∧ a ρ fun x ρ1 => ∃ l k j n, ρ1[i]? = some (.own l) ∧ x = .int k ∧ ixN l.length k = some j ∧ l[j]? = some (.int n) ∧ b ρ1 fun y ρ2 => ∃ m l2, y = .int m ∧ ρ2[i]? = some (.own l2) ∧ ixN l2.length k = some j ∧ P.nx (ρ2.set i (.own (l2.set j (.int (f n m)))))) := rfl
end
end TkL


namespace TkL
open PySem PySem.Spec PySem.Calls PyProof.Rows L2 Tk
def spUN (K : PySem.W.Frag) (C : Addr) (up : UP) : Sp := fun vs H Q _ => ∃ dO F ds P, RelH ⟨K, C, dO, H, F⟩ H F ∧ Reps K C dO F vs ds ∧ up ds P ∧ ∀ l H' F' p ws, P (.lst l) → RelH ⟨K, C, dO, H, F⟩ H' F' → H p = none → F' p = none → H' p = some (.lst ws) → Reps K C dO F' ws l → Q (.ref p) H'
section
variable {B : Bs} {H F : Hp}
theorem RelH.frzO {H' F' : Hp} (R : RelH B H' F') {p : Addr} {ws : List V} (h0 : B.H0 p = none) (hF : F' p = none) (hH : H' p = some (.lst ws)) : RelH B H' (upd F' p (.lst ws)) := by
  have ex : Ex F' (upd F' p (.lst ws)) := Ex.new hF
  refine ⟨fun x o e => ?_, R.ff.trans ex, fun x h1 h2 => ?_, fun x o h1 h2 => ?_, R.kp, R.hd, fun d e => ⟨(R.dd d e).1, ?_⟩⟩
  · by_cases cx : x = p
    · rw [cx, upd_same] at e; rw [cx, hH]; exact e
    · rw [upd_ne cx] at e; exact R.fh x o e
  · have : x ≠ p := fun z => h1 (by rw [z]; exact h0)
    rw [upd_ne this]; exact R.f0 x h1 h2
  · have : x ≠ p := fun z => by rw [z, upd_same] at h2; cases h2
    rw [upd_ne this] at h2; exact R.lk x o h1 h2
  · have : d ≠ p := fun z => R.hd d e (by rw [z]; exact h0)
    rw [upd_ne this]; exact (R.dd d e).2
theorem spUN_of {K : PySem.W.Frag} {C : Addr} {up : UP} {vs : List V} {H : Hp} {Q : VK} {E : XK} (h : spU K C up vs H Q E) : spUN K C up vs H Q E := by
  obtain ⟨dO, F, ds, P, R, r, hu, k⟩ := h
  exact ⟨dO, F, ds, P, R, r, hu, fun l H' F' p ws q R' h0 hF hH rp => k _ H' _ _ q (R'.frzO h0 hF hH) (.lst upd_same (rp.ex (Ex.new hF)))⟩
theorem spUN_call {up : UP} {vs : List V} {ds : List D} {Q : VK} {E : XK} {P : D → Prop} (R : RelH B H F) (r : Reps B.K B.C B.dO F vs ds) (h : up ds P) (k : ∀ H' F' p ws l, St1 B H F H' F' → H p = none → F' p = none → H' p = some (.lst ws) → Reps B.K B.C B.dO F' ws l → P (.lst l) → Q (.ref p) H') : spUN B.K B.C up vs H Q E :=
  ⟨B.dO, F, ds, P, R.start, r, h, fun l H' F' p ws q R' h0 hF hH rp => k H' F' p ws l (R.st1 R') h0 hF hH rp q⟩
variable {t ta : TE} {u ua : UE} {A : TA} {U : UA} {ts ts' : TS} {us us' : US} {tt : TT} {ut : UT}
theorem sN_def {up : UP} (hA : SimP B A U) : SimN B (tDef (spUN B.K B.C up) E0 A) (uDef up U) := fun H F σ ρ Q P R hu k =>
  hA H F σ ρ _ _ R hu fun H1 F1 vs ds ρ1 e1 k1 R1 r1 p1 => spUN_call R1.toRelH r1 p1 fun H' F' p ws l s h0 hF hH rp p => k H' F' _ _ _ ρ1 (e1.trans s.ex) (k1.trans (s.kq R1)) (s.rel _ _ R1) (k1.kp.back (R1.toRelH.nd h0) h0) (R1.fresh (s.rel _ _ R1) h0 fun _ _ h => h) hF hH rp p
def uRetO (i : Nat) (O : List D → Prop) : US := fun _ ρ => ∃ l, ρ[i]? = some (.own l) ∧ O l
def uRetN' (a : UE) (O : List D → Prop) : US := fun _ ρ => a ρ fun d _ => ∃ l, d = .lst l ∧ O l
def SimSO (B : Bs) (t : TS) (u : (List D → Prop) → US) : Prop := ∀ H F σ ρ (D1 : Ends) (P : UEnds) (O : List D → Prop), RelF B H F σ ρ → u O P ρ → Kn B F D1 P →
  (∀ H' F' p ws l, Ex F F' → RelH B H' F' → B.H0 p = none → F' p = none → H' p = some (.lst ws) → Reps B.K B.C B.dO F' ws l → O l → D1.rt (.ref p) H') → t D1 σ H
theorem sO_seq {us' : (List D → Prop) → US} (h : SimS B ts us) (h' : SimSO B ts' us') : SimSO B (tSeq ts ts') (fun O => uSeq us (us' O)) := fun H F σ ρ D1 P O R hu k kO =>
  h H F σ ρ _ _ R hu ⟨fun H' F' σ' ρ' e R' p => h' H' F' σ' ρ' _ _ O R' p (k.up e) (fun H2 F2 p ws l e2 => kO H2 F2 p ws l (e.trans e2)), k.rt, k.bk, k.ct⟩
theorem sO_ret {i : Nat} : SimSO B (tRet (tVar i)) (uRetO i) := fun H F σ ρ D1 P O R hu k kO => by
  obtain ⟨l, e, o⟩ := hu
  obtain ⟨p, vs, a, b, c, d, g⟩ := R.own i l e
  exact ⟨_, a, kO H F p vs l (Ex.refl _) R.toRelH b c d g o⟩
theorem sO_retN (h : SimN B ta ua) : SimSO B (tRet ta) (uRetN' ua) := fun H F σ ρ D1 P O R hu k kO =>
  h H F σ ρ _ _ R hu fun H1 F1 p vs l ρ1 e1 k1 R1 hp hn hF hH rp p1 => by
    obtain ⟨l', e, o⟩ := p1
    cases e
    exact kO H1 F1 p vs l e1 R1.toRelH (R.toRelH.n0 hp) hF hH rp o
theorem rd_of_simO {K : PySem.W.Frag} {C : Addr} {up : UP} {N : List Str} {vs : List V} {H : Hp} {Q : VK} {E : XK} {us : (List D → Prop) → US} (S : ∀ B : Bs, B.K = K → B.C = C → SimSO B ts us) (hl : ∀ ds P, up ds P → ds.length ≤ N.length) (hr : ∀ ds P, up ds P → us (fun l => P (.lst l)) { nx := fun _ => False, rt := fun _ => False } (startU N ds)) (h : spUN K C up vs H Q E) :
    ts { nx := fun _ H' => Q .non H', rt := Q } (start N vs) H := by
  obtain ⟨dO, F, ds, P, R, r, hu, k⟩ := h
  have hlen := r.len
  have hN := hl ds P hu
  have val : ∀ (i : Nat) d, (startU N ds)[i]? = some (.val d) → ∃ v, (start N vs)[i]? = some (some v) ∧ Rep K C dO F v d := fun i d e => by
    unfold startU at e
    unfold L2.start
    by_cases c : i < ds.length
    · rw [List.getElem?_append_left (by simpa using c), List.getElem?_map] at e
      rw [List.getElem?_append_left (by simpa [hlen] using c), List.getElem?_map]
      cases e1 : ds[i]? with
      | none => rw [e1] at e; cases e
      | some d' =>
        rw [e1] at e
        cases e
        obtain ⟨v, h1, h2⟩ := r.get' e1
        exact ⟨v, by rw [h1]; rfl, h2⟩
    · rw [List.getElem?_append_right (by simpa using c), List.getElem?_replicate] at e
      split at e <;> cases e
  have noown : ∀ (i : Nat) l, (startU N ds)[i]? ≠ some (.own l) := fun i l e => by
    unfold startU at e
    by_cases c : i < ds.length
    · rw [List.getElem?_append_left (by simpa using c), List.getElem?_map] at e
      cases e1 : ds[i]? with
      | none => rw [e1] at e; cases e
      | some d' => rw [e1] at e; cases e
    · rw [List.getElem?_append_right (by simpa using c), List.getElem?_replicate] at e
      split at e <;> cases e
  have RF : RelF ⟨K, C, dO, H, F⟩ H F (start N vs) (startU N ds) := ⟨R, by unfold L2.start startU; simp [hlen], val, fun i l e => absurd e (noown i l), fun i j l m p e => absurd e (noown i l)⟩
  exact S ⟨K, C, dO, H, F⟩ rfl rfl H F _ _ _ _ _ RF (hr ds P hu) ⟨fun _ _ _ _ _ _ h => h.elim, fun _ _ _ _ _ _ _ h => h.elim, fun _ _ _ _ _ _ h => h.elim, fun _ _ _ _ _ _ h => h.elim⟩ fun H' F' p ws l e R' h0 hF hH rp o => k l H' F' p ws o R' h0 hF hH rp
theorem len_of_simN {K : PySem.W.Frag} {C : Addr} {up : UP} {n : Nat} {vs : List V} {H : Hp} {Q : VK} {E : XK} (hl : ∀ ds P, up ds P → ds.length = n) (h : spUN K C up vs H Q E) : vs.length = n := by
  obtain ⟨dO, F, ds, P, R, r, hu, k⟩ := h
  rw [r.len]; exact hl ds P hu
def uBor (t : UT) : UT := fun ρ P => t ρ fun c ρ' => P c ρ
open Classical in
noncomputable def thaw (σ : L2.St) (ρ : Env) (F : Hp) : Hp := fun x => if ∃ (i : Nat) (l : List D), ρ[i]? = some (.own l) ∧ σ[i]? = some (some (.ref x)) then none else F x
theorem sT_bor (h : SimT B tt ut) : SimT B tt (uBor ut) := fun H F σ ρ Q P R hu k =>
  h H F σ ρ Q _ R hu fun H' F' c ρ' e k1 R' p => by
    have th0 : ∀ x, F x ≠ none → ¬ ∃ (i : Nat) (l : List D), ρ[i]? = some (.own l) ∧ σ[i]? = some (some (.ref x)) := fun x hx ⟨i, l, h1, h2⟩ => by
      obtain ⟨p, vs, a, _, b, _⟩ := R.own i l h1
      rw [h2] at a; cases a
      exact hx b
    have ex : Ex F (thaw σ ρ F') := fun x o hx => by
      unfold thaw
      rw [if_neg (th0 x (by rw [hx]; exact Option.some_ne_none _))]
      exact e x o hx
    have sub : Ex (thaw σ ρ F') F' := fun x o hx => by
      unfold thaw at hx
      split at hx
      · cases hx
      · exact hx
    have rel : RelF B H' (thaw σ ρ F') σ ρ := by
      refine ⟨⟨sub.trans R'.fh, R.ff.trans ex, fun x h1 h2 => ?_, fun x o h1 h2 => ?_, R'.kp, R'.hd, fun d hd => ⟨(R'.dd d hd).1, ?_⟩⟩, R.len, fun i d hi => ?_, fun i l hi => ?_, R.inj⟩
      · unfold thaw
        split
        · rfl
        · exact R'.f0 x h1 h2
      · unfold thaw at h2
        split at h2
        · rename_i z
          obtain ⟨i, l, z1, z2⟩ := z
          obtain ⟨p, vs, a, b, _, d, _⟩ := R.own i l z1
          rw [z2] at a; cases a
          have := k1.kp _ _ (R.toRelH.d0 b) d
          rw [h1] at this
          exact ⟨vs, Option.some.inj this⟩
        · exact R'.lk x o h1 h2
      · unfold thaw
        split
        · rfl
        · exact (R'.dd d hd).2
      · obtain ⟨v, a, b⟩ := R.val i d hi
        exact ⟨v, a, b.ex ex⟩
      · obtain ⟨p, vs, a, b, c', d, g⟩ := R.own i l hi
        exact ⟨p, vs, a, b, by unfold thaw; rw [if_pos ⟨i, l, hi, a⟩], k1.kp _ _ (R.toRelH.d0 b) d, g.ex ex⟩
    refine k H' _ c ρ ex ⟨k1.kp, k1.nn, fun i l hi => ⟨l, hi⟩, fun x h1 h2 h3 => ?_⟩ rel p
    unfold thaw
    rw [if_neg fun ⟨i, l, z1, z2⟩ => h3 i l z1 z2]
    exact k1.pr x h1 h2 h3
end
section
variable {P : UEnds} {ρ : Env} {O : List D → Prop} {a : UE} {k : UT} {QT : Bool → Env → Prop} {i : Nat}
theorem e_bor : uBor k ρ QT = k ρ fun c _ => QT c ρ := rfl
theorem e_retO : uRetO i O P ρ = ∃ l, ρ[i]? = some (.own l) ∧ O l := rfl
theorem e_retNO : uRetN' a O P ρ = a ρ fun d _ => ∃ l, d = .lst l ∧ O l := rfl
end
def uPar_ovv (i j l : Nat) (a b : UE) : US := fun P ρ => a ρ fun d ρ1 => b ρ1 fun e ρ2 => P.nx (((ρ2.set i (.own [])).set j (.val d)).set l (.val e))
section
variable {B : Bs} {ta tb : TE} {ua ub : UE}
theorem sS_par_ovv {i j l : Nat} (ha : SimE B ta ua) (hb : SimE B tb ub) : SimS B (tPar3 i j l (tCons (tLst tNil) (tCons ta (tCons tb tNil)))) (uPar_ovv i j l ua ub) := fun H F σ ρ D1 P R hu k => by
  refine ⟨Nat.zero_le _, fun p hp => ?_⟩
  obtain ⟨s, hF⟩ := new_own (vs := []) R.toRelH hp
  have R0 := s.rel _ _ R
  refine ha _ F σ ρ _ _ R0 hu fun H1 F1 v d ρ1 e1 k1 R1 r1 p1 => ?_
  refine hb H1 F1 σ ρ1 _ _ R1 p1 fun H2 F2 w d2 ρ2 e2 k2 R2 r2 p2 => ?_
  have nd : some p ≠ B.dO := R.toRelH.nd hp
  have h1 : H1 p = some (.lst []) := k1.kp _ _ nd upd_same
  have h2 : H2 p = some (.lst []) := k2.kp _ _ nd h1
  have no0 : ∀ (n : Nat) m, ρ[n]? = some (.own m) → σ[n]? ≠ some (some (.ref p)) := fun n m e z => by
    obtain ⟨q, vs, a, _, _, b, _⟩ := R.own n m e
    rw [z] at a; cases a
    rw [hp] at b; cases b
  have no1 : ∀ (n : Nat) m, ρ1[n]? = some (.own m) → σ[n]? ≠ some (some (.ref p)) := fun n m e => by
    obtain ⟨m', e'⟩ := k1.ow n m e
    exact no0 n m' e'
  have no2 : ∀ (n : Nat) m, ρ2[n]? = some (.own m) → σ[n]? ≠ some (some (.ref p)) := fun n m e => by
    obtain ⟨m', e'⟩ := k2.ow n m e
    exact no1 n m' e'
  have f1 : F1 p = none := k1.pr p (by rw [upd_same]; exact Option.some_ne_none _) hF no0
  have f2 : F2 p = none := k2.pr p (by rw [h1]; exact Option.some_ne_none _) f1 no1
  have R3 := R2.setG (i := i) (x := some (.ref p)) (s := .own []) (fun d' z => nomatch z) fun l' z => by
    cases z
    exact ⟨p, [], rfl, R.toRelH.n0 hp, f2, h2, .nil, fun n m _ e => no2 n m e⟩
  exact ⟨_, _, _, rfl, k.nx H2 F2 _ _ (e1.trans e2) ((R3.setV (r1.ex e2)).setV r2) p2⟩
end
theorem e_par_ovv {P : UEnds} {ρ : Env} {a b : UE} {i j l : Nat} : uPar_ovv i j l a b P ρ = a ρ fun d ρ1 => b ρ1 fun e ρ2 => P.nx (((ρ2.set i (.own [])).set j (.val d)).set l (.val e)) := rfl
end TkL


namespace TkL
open Tk L2
theorem b2n_ite {b : Bool} : (if b = true then (1 : Int) else 0) = b.toInt := by cases b <;> rfl
theorem count_ind {f : Int → Int} (h0 : ∀ t, t < 0 → f t = 0) (hs : ∀ t, 0 ≤ t → f t = f (t - 1)) (t : Int) : f t = 0 := by
  rcases Int.lt_or_le t 0 with q | q
  · exact h0 t q
  · have key : ∀ n : Nat, f (n : Int) = 0 := fun n => by
      induction n with
      | zero => rw [hs _ (by omega)]; exact h0 _ (by omega)
      | succ n ih =>
        rw [hs _ (by omega)]
        have e : ((n + 1 : Nat) : Int) - 1 = (n : Int) := by omega
        rw [e]; exact ih
    have := key t.toNat
    rwa [Int.toNat_of_nonneg q] at this
section
variable {N M : Int} {a b c x y z u v w : RV}
theorem RD.wf (h : RD N M a) : WF a.early a.beg a.len a.offs := h.rb.c.wf
theorem cnt_or (ha : RB a) (hb : RB b) (hx : RB x) (hy : RB y) (ex : ∀ t, x.has t = (a.has t || b.has t)) (ey : ∀ t, y.has t = (a.has t && b.has t)) (t : Int) : x.count t + y.count t = a.count t + b.count t := by
  have := count_ind (f := fun t => x.count t + y.count t - (a.count t + b.count t)) (fun t q => by
    rw [count_neg hx.c.wf q, count_neg hy.c.wf q, count_neg ha.c.wf q, count_neg hb.c.wf q]; rfl) (fun t q => by
    rw [count_step hx.c.wf, count_step hy.c.wf, count_step ha.c.wf, count_step hb.c.wf, ex, ey]
    cases a.has t <;> cases b.has t <;> simp <;> omega) t

  omega
theorem cnt_sub (ha : RB a) (hb : RB b) (hx : RB x) (hy : RB y) (ex : ∀ t, x.has t = (a.has t && !b.has t)) (ey : ∀ t, y.has t = (a.has t && b.has t)) (t : Int) : x.count t + y.count t = a.count t := by
  have := count_ind (f := fun t => x.count t + y.count t - a.count t) (fun t q => by
    rw [count_neg hx.c.wf q, count_neg hy.c.wf q, count_neg ha.c.wf q]; rfl) (fun t q => by
    rw [count_step hx.c.wf, count_step hy.c.wf, count_step ha.c.wf, ex, ey]
    cases a.has t <;> cases b.has t <;> simp <;> omega) t

  omega
theorem cnt_three (ha : RB a) (hb : RB b) (hc : RB c) (hx : RB x) (hu : RB u) (hv : RB v) (hw : RB w) (hy : RB y) (ex : ∀ t, x.has t = (a.has t || b.has t || c.has t)) (eu : ∀ t, u.has t = (a.has t && b.has t)) (ev : ∀ t, v.has t = (a.has t && c.has t)) (e_w : ∀ t, w.has t = (b.has t && c.has t)) (ey : ∀ t, y.has t = (a.has t && b.has t && c.has t)) (t : Int) :
    x.count t = a.count t + b.count t + c.count t + y.count t - (u.count t + v.count t + w.count t) := by
  have := count_ind (f := fun t => x.count t + (u.count t + v.count t + w.count t) - (a.count t + b.count t + c.count t + y.count t)) (fun t q => by
    rw [count_neg hx.c.wf q, count_neg hy.c.wf q, count_neg ha.c.wf q, count_neg hb.c.wf q, count_neg hc.c.wf q, count_neg hu.c.wf q, count_neg hv.c.wf q, count_neg hw.c.wf q]; rfl) (fun t q => by
    rw [count_step hx.c.wf, count_step hy.c.wf, count_step ha.c.wf, count_step hb.c.wf, count_step hc.c.wf, count_step hu.c.wf, count_step hv.c.wf, count_step hw.c.wf, ex, ey, eu, ev, e_w]
    cases a.has t <;> cases b.has t <;> cases c.has t <;> simp <;> omega) t

  omega
theorem endless_iff (ha : RB a) : a.offs ≠ [] ↔ ∀ n : Int, ∃ t, n ≤ t ∧ a.has t = true := by
  have w := ha.c.wf
  have l1 := w.l1
  constructor
  · intro ho n
    obtain ⟨o, l, eo⟩ : ∃ o l, a.offs = o :: l := by
      cases h : a.offs with
      | nil => exact absurd h ho
      | cons o l => exact ⟨o, l, rfl⟩
    have m : o ∈ a.offs := by rw [eo]; simp
    have q := w.ow o m
    have hk : (0 : Int) ≤ (n.natAbs : Int) := by omega
    have hm : (1 : Int) * (n.natAbs : Int) ≤ a.len * (n.natAbs : Int) := Int.mul_le_mul_of_nonneg_right l1 hk
    have p := ((qhas_per (e := a.early) (b := a.beg) (o := a.offs) l1).mul (by omega) hk) (a.beg + o) (by omega)
    have h0 : a.has (a.beg + o) = true := by rw [RV.has_off w q.1 q.2]; exact decide_eq_true m
    have b0 := w.b0
    exact ⟨a.beg + o + a.len * (n.natAbs : Int), by omega, by rw [← h0]; exact p.symm⟩
  · intro h z
    obtain ⟨t, h1, h2⟩ := h a.beg
    rw [RV.has_hi h1, z] at h2
    cases h2
end
theorem end_mono {a b : RV} (ha : RB a) (hb : RB b) (h : ∀ t, a.has t = true → b.has t = true) (e : a.offs ≠ []) : b.offs ≠ [] :=
  (endless_iff hb).mpr fun n => by
    obtain ⟨t, h1, h2⟩ := (endless_iff ha).mp e n
    exact ⟨t, h1, h t h2⟩
theorem end_or {a b x : RV} (ha : RB a) (hb : RB b) (hx : RB x) (h : ∀ t, x.has t = (a.has t || b.has t)) : x.offs ≠ [] ↔ a.offs ≠ [] ∨ b.offs ≠ [] := by
  constructor
  · intro e
    refine Classical.byContradiction fun n => ?_
    have n1 : ¬ ∀ n : Int, ∃ t, n ≤ t ∧ a.has t = true := fun z => n (.inl ((endless_iff ha).mpr z))
    have n2 : ¬ ∀ n : Int, ∃ t, n ≤ t ∧ b.has t = true := fun z => n (.inr ((endless_iff hb).mpr z))
    obtain ⟨i, hi⟩ := Classical.not_forall.mp n1
    obtain ⟨j, hj⟩ := Classical.not_forall.mp n2
    obtain ⟨t, h1, h2⟩ := (endless_iff hx).mp e (max i j)
    rw [h, Bool.or_eq_true] at h2
    rcases h2 with h2 | h2
    · exact hi ⟨t, by omega, h2⟩
    · exact hj ⟨t, by omega, h2⟩
  · rintro (e | e)
    · exact end_mono ha hx (fun t z => by rw [h, z]; rfl) e
    · exact end_mono hb hx (fun t z => by rw [h, z, Bool.or_true]) e
theorem count_fin {r : RV} (h : r.offs = []) (t : Int) : r.count t ≤ r.early.length := by
  unfold RV.count
  by_cases c : t < r.beg
  · rw [if_pos c]
    unfold cntLe
    have := List.length_filter_le (fun x => decide (x ≤ t)) r.early
    omega
  · rw [if_neg c, h]
    show (r.early.length : Int) + _ * (0 : Int) + ((cntLe [] _ : Nat) : Int) ≤ _
    rw [Int.mul_zero]
    show (r.early.length : Int) + 0 + 0 ≤ _
    omega
theorem nth_in {r : RV} (w : WF r.early r.beg r.len r.offs) {n t : Int} (h0 : 0 ≤ n) (h : n < r.count t) : (n < r.early.length ∨ r.offs ≠ []) ∧ r.has (r.nth n) = true ∧ r.count (r.nth n) = n + 1 ∧ 0 ≤ r.nth n ∧ r.nth n ≤ t := by
  have ok : n < r.early.length ∨ r.offs ≠ [] := by
    by_cases e : r.offs = []
    · have := count_fin e t; exact .inl (by omega)
    · exact .inr e
  have n1 := nth_ok w h0 ok
  refine ⟨ok, n1.1, n1.2, nth_nn w h0 ok, ?_⟩
  rcases Int.lt_or_le t (r.nth n) with q | q
  · have := count_lt w q n1.1; omega
  · exact q
theorem pow18' : ((10 : Int) ^ (18 : Int).toNat) = 1000000000000000000 := by decide
theorem cp6 : CPow 10 6 := ⟨by decide, by decide, by decide⟩
theorem cp18 : CPow 10 18 := ⟨by decide, by decide, by decide⟩
theorem dv2520 {x : Int} (h1 : 1 ≤ x) (h2 : x ≤ 10) : x ∣ 2520 := by
  have : x = 1 ∨ x = 2 ∨ x = 3 ∨ x = 4 ∨ x = 5 ∨ x = 6 ∨ x = 7 ∨ x = 8 ∨ x = 9 ∨ x = 10 := by omega
  rcases this with h | h | h | h | h | h | h | h | h | h <;> rw [h] <;> decide
theorem short_d {v : VB} {r : RV} (s : ShortV v) (rb : RB r) (h : ∀ t, r.has t = v.has t) : RD 2520 200 r := by
  have bd := fix_bounds s.ok rb h
  have := s.bb
  have := s.lb
  exact ⟨rb, dv2520 rb.c.wf.l1 (by omega), by omega⟩
theorem N2520 : (1 : Int) ≤ 2520 ∧ (2520 : Int) ≤ 20000 := by decide
end TkL


namespace TkL
open PySem PySem.Spec PySem.Calls PyProof.Rows L2 Tk
theorem rngD_mem0 {n i : Nat} {d : D} (h : (rngD 0 n)[i]? = some d) : i < n ∧ d = .int i := by
  have hi := lt_of_get h
  rw [rngD_length] at hi
  rw [rngD_get hi] at h
  refine ⟨hi, ?_⟩
  cases h
  rw [Int.zero_add]
theorem rngD_memN {lo : Int} {n i : Nat} {d : D} (h : (rngD lo n)[i]? = some d) : i < n ∧ d = .int (lo + i) := by
  have hi := lt_of_get h
  rw [rngD_length] at hi
  rw [rngD_get hi] at h
  refine ⟨hi, ?_⟩
  cases h; rfl
theorem iL_getD {l : List Int} {k : Nat} {d : D} (h : (iL l)[k]? = some d) : k < l.length ∧ d = .int (l.getD k 0) := by
  have hi := lt_of_get h
  rw [iL_len] at hi
  refine ⟨hi, ?_⟩
  unfold iL at h
  rw [List.getElem?_map, List.getElem?_eq_getElem hi] at h
  cases h
  rw [List.getD_eq_getElem?_getD, List.getElem?_eq_getElem hi]; rfl
theorem rngN_mem {n : Nat} {t : Int} (h : t ∈ (List.range n).map fun k : Nat => (k : Int)) : 0 ≤ t ∧ t < n := by
  obtain ⟨n, hn, rfl⟩ := List.mem_map.mp h
  have := List.mem_range.mp hn
  omega
section
variable {r : RV} {v : VB} {P : D → Prop} {t : Int}
theorem notin_i {x : D} (hx : x = .non ∨ (∃ b, x = .bl b) ∨ ∃ z, x = .str z) (h : P (.bl false)) : qUpIn false upContains x (.row r) P := by
  rcases hx with rfl | ⟨b, rfl⟩ | ⟨z, rfl⟩
  · exact ⟨rfl, r, _, rfl, .inr ⟨.inr (.inl rfl), h⟩⟩
  · exact ⟨rfl, r, _, rfl, .inr ⟨.inl ⟨_, rfl⟩, h⟩⟩
  · exact ⟨rfl, r, _, rfl, .inr ⟨.inr (.inr ⟨_, rfl⟩), h⟩⟩
theorem notin_lo (ht : t < 0) (h : P (.bl false)) : upContains [.row r, .int t] P :=
  ⟨r, _, rfl, .inl ⟨_, rfl, by rw [decide_eq_false (show ¬ (0 ≤ t) by omega)]; exact h⟩⟩
theorem notin_hi (ht : 1000000000000000000 < t) (h : P (.bl false)) : upContains [.row r, .int t] P :=
  ⟨r, _, rfl, .inl ⟨_, rfl, by rw [decide_eq_false (show ¬ (t ≤ 1000000000000000000) by omega), Bool.and_false]; exact h⟩⟩
theorem text_i (h : P (.str (rowText r))) : upText [.row r] P := ⟨r, rfl, h⟩
theorem rep_i (h : P (.tup [.int r.beg, .int r.len, .int r.offs.length])) : upRep [.row r] P := ⟨r, rfl, h⟩
theorem laps_i (h : P (.tup (iL r.laps))) : upRLaps [.row r] P := ⟨r, rfl, h⟩
theorem flaps_i (h : P (.tup (iL r.flaps))) : upRFlaps [.row r] P := ⟨r, rfl, h⟩
theorem at_i (ok : VOk v) (h : P (.int (v.at t))) : upAt [v.d, .int t] P := ⟨v, t, rfl, ok.l1, ok.lb, h⟩
theorem hasv_i (ok : VOk v) (h : P (.bl (v.has t))) : upHas [v.d, .int t] P := ⟨v, t, rfl, ok.l1, ok.lb, h⟩
theorem lawText_i (ok : VOk v) (rb : RB r) (hr : ∀ t, r.has t = v.has t) (h : P (.str (rowText r))) : upLawText [v.d] P :=
  ⟨v, rfl, ok, ⟨r, rb, hr⟩, fun q qb hq => by rw [qb.ext rb fun t => (hq t).trans (hr t).symm]; exact h⟩
theorem lawNormal_i (ok : VOk v) (rb : RB r) (hr : ∀ t, r.has t = v.has t) (h : P (normD r)) : upLawNormal [v.d] P :=
  ⟨v, rfl, ok, ⟨r, rb, hr⟩, fun q qb hq => by rw [qb.ext rb fun t => (hq t).trans (hr t).symm]; exact h⟩
theorem boolT_i (ho : r.offs ≠ []) (h : P (.bl true)) : upBool [.row r] P := ⟨r, rfl, by
  have : 0 < r.offs.length := List.length_pos_iff.mpr ho
  rw [decide_eq_true (by omega)]; exact h⟩
theorem ixv0 : qIxT v.d (.int 0) P ↔ P (.lst (iL v.ts)) := ⟨fun ⟨d, e, h⟩ => by cases e; exact h, fun h => ⟨_, rfl, h⟩⟩
theorem ixv1 : qIxT v.d (.int 1) P ↔ P (.int v.b) := ⟨fun ⟨d, e, h⟩ => by cases e; exact h, fun h => ⟨_, rfl, h⟩⟩
theorem ixv2 : qIxT v.d (.int 2) P ↔ P (.int v.l) := ⟨fun ⟨d, e, h⟩ => by cases e; exact h, fun h => ⟨_, rfl, h⟩⟩
end
theorem sum_leK : ∀ {l : List Int} {k : Int}, (∀ x ∈ l, x ≤ k) → l.sum ≤ k * (l.length : Int) := sum_le_len
structure PlU (v : VB) (r : RV) : Prop where
  ok : VOk v
  rb : RB r
  hr : ∀ t, r.has t = v.has t
  ho : r.offs ≠ []
  ll : r.len ≤ 720
  bb : r.beg ≤ 300
  vb : v.b ≤ 300
  vl : v.l ≤ 720
  pr : PR r v.l
  vt : v.ts.length ≤ 1000
section
variable {m s : Int} {fs ls : List Int} {P : D → Prop}
theorem plan_bds (po : PlanOk m s fs ls) (hm : m ≤ 12) : fs.sum ≤ 180 ∧ ls.sum ≤ 720 ∧ fs.length ≤ 3 ∧ ls.length ≤ 12 ∧ 0 ≤ fs.sum ∧ VOk (planV s fs ls) := by
  have h1 := sum_leK fun x hx => (po.fr x hx).2
  have h2 := sum_leK fun x hx => (po.lr x hx).2
  have h3 := po.fl
  have h4 := po.ll
  have h5 := po.s1
  have h6 : 0 ≤ fs.sum := sum_nn0 fun x hx => by have := po.fr x hx; omega
  have b1 : fs.sum ≤ 180 := by omega
  have b2 : ls.sum ≤ 720 := by omega
  exact ⟨b1, b2, h3, by omega, h6, planV_ok po.s0 (fun x hx => (po.fr x hx).1) (fun x hx => (po.lr x hx).1) po.ln (by omega) (by omega)⟩
theorem plan_pl (po : PlanOk m s fs ls) (hm : m ≤ 12) {r : RV} (rb : RB r) (h : ∀ t, r.has t = planHas s fs ls t) : PlU (planV s fs ls) r := by
  have b := plan_bds po hm
  have hr : ∀ t, r.has t = (planV s fs ls).has t := fun t => by rw [h t, planV_has po.s0 (fun x hx => (po.fr x hx).1) (fun x hx => (po.lr x hx).1) po.ln]
  have pr := plan_row rb po h
  have fb := fix_bounds b.2.2.2.2.2 rb hr
  have s1 := po.s1
  have e1 : (planV s fs ls).b = s + fs.sum := rfl
  have e2 : (planV s fs ls).l = ls.sum := rfl
  have e3 : (planV s fs ls).ts.length ≤ 1000 := by
    show (List.dropLast (tks s (fs ++ ls))).length ≤ _
    rw [List.length_dropLast, tks_len, List.length_append]
    omega
  exact ⟨b.2.2.2.2.2, rb, hr, pr.ho, by omega, by omega, by omega, by omega, pr, e3⟩
theorem value_p (po : PlanOk m s fs ls) (hm : m ≤ 12) (h : P (planV s fs ls).d) : upValue [.tup [.int s, .tup (iL fs), .tup (iL ls)]] P := by
  have b := plan_bds po hm
  exact ⟨s, fs, ls, rfl, by omega, by omega, po.ln, h⟩
theorem row_p (po : PlanOk m s fs ls) (hm : m ≤ 12) (h : ∀ r, PlU (planV s fs ls) r → P (.row r)) : upLawRow [.tup [.int s, .tup (iL fs), .tup (iL ls)]] P := by
  have b := plan_bds po hm
  have s1 := po.s1
  exact ⟨s, fs, ls, rfl, po.s0, fun x hx => (po.fr x hx).1, fun x hx => (po.lr x hx).1, by omega, by omega, po.ln, by omega, by omega, fun r rb hr => h r (plan_pl po hm rb hr)⟩
end
section
variable {r : RV}
theorem lap_round (rb : RB r) (ho : r.offs ≠ []) : r.count (r.beg + r.len - 1) - (if r.beg > 0 then r.count (r.beg - 1) else 0) = r.offs.length := by
  have w := rb.c.wf
  have l1 := w.l1
  have b0 := w.b0
  have h1 := count_rounds w (k := 1) (by decide)
  have s1 := count_step w (r.beg + r.len)
  have s2 := count_step w r.beg
  have p : r.has (r.beg + r.len) = r.has r.beg := ((qhas_per (e := r.early) (b := r.beg) (o := r.offs) l1) r.beg (Int.le_refl _)).symm
  rw [Int.one_mul, Int.one_mul] at h1
  rw [p] at s1
  by_cases c : r.beg > 0
  · rw [if_pos c]; omega
  · rw [if_neg c]
    have : r.beg = 0 := by omega
    have z := count_neg w (t := r.beg - 1) (by omega)
    omega
theorem nth_bd (rb : RB r) (ho : r.offs ≠ []) {n : Int} (h0 : 0 ≤ n) (hn : n ≤ r.early.length + 2 * r.offs.length) : 0 ≤ r.nth n ∧ r.nth n ≤ 300000 := by
  have w := rb.c.wf
  refine ⟨nth_nn w h0 (.inr ho), ?_⟩
  have h1 := nth_rounds w ho (n := r.early.length) (k := 2) (Int.le_refl _) (by decide)
  have h2 : r.nth r.early.length ≤ r.beg + r.len := by
    have := nth_late (r := r) ho (j := 0) (Nat.zero_le _)
    simp only [Int.natCast_zero, Int.add_zero] at this
    rw [this]
    obtain ⟨o, l, e⟩ : ∃ o l, r.offs = o :: l := by
      cases h : r.offs with
      | nil => exact absurd h ho
      | cons o l => exact ⟨o, l, rfl⟩
    have := w.ow o (by rw [e]; simp)
    rw [e]
    show r.beg + o ≤ _
    omega
  have bb := rb.bb
  have lb := rb.lb
  by_cases c : n = r.early.length + 2 * r.offs.length
  · rw [c, h1]; omega
  · have := nth_lt w ho h0 (show n < r.early.length + 2 * r.offs.length by omega)
    omega
theorem laps_nth (rb : RB r) (ho : r.offs ≠ []) {k : Nat} (hk : k < (r.flaps ++ r.laps ++ r.laps).length) : (r.flaps ++ r.laps ++ r.laps).getD k 0 = r.nth ((k : Int) + 1) - r.nth k := by
  have e : r.flaps ++ (List.replicate 2 r.laps).flatten = r.flaps ++ r.laps ++ r.laps := by
    show r.flaps ++ (r.laps ++ (r.laps ++ [])) = _
    rw [List.append_nil, List.append_assoc]
  have := laps_get rb.c.wf ho 2 (k := k) (by rw [e]; exact hk)
  rw [e] at this; exact this
def nths (r : RV) (n : Nat) : List Int := (List.range n).map fun k : Nat => r.nth k
theorem nths_len {n : Nat} : (nths r n).length = n := by unfold nths; rw [List.length_map, List.length_range]
theorem nths_succ {n : Nat} : nths r (n + 1) = nths r n ++ [r.nth n] := by unfold nths; rw [List.range_succ, List.map_append]; rfl
theorem nths_last {n : Nat} : (nths r (n + 1)).getLastD 0 = r.nth n := by rw [nths_succ, List.getLastD_concat]
theorem nths_mem {n : Nat} {t : Int} (h : t ∈ nths r n) : ∃ k : Nat, k < n ∧ t = r.nth k := by
  obtain ⟨k, hk, rfl⟩ := List.mem_map.mp h
  exact ⟨k, List.mem_range.mp hk, rfl⟩
end
end TkL



namespace TkL
open PySem PySem.Spec PySem.Calls PyProof.Rows L2 Tk
section
variable (K : PySem.W.Frag) (C : Addr)
def tULequal (up : UP) : TS := (tSeq (tIfS (tTest (tOp rIsNon (tVar 1) (tC .non))) (tRet (tOp rIsNon (tVar 0) (tC .non))) tNext)
    (tSeq (tIfS (tB (tCB (kIsi K) (tCons (tVar 1) (tCons (tC (.ty "bool")) tNil)))) (tRet (tAndV (tCB (kIsi K) (tCons (tVar 0) (tCons (tC (.ty "bool")) tNil))) (tOp rEq (tVar 0) (tVar 1)))) tNext)
    (tSeq (tIfS (tB (tCB (kIsi K) (tCons (tVar 1) (tCons (tC (.ty "int")) tNil)))) (tRet (tAndV (tCB (kIsi K) (tCons (tVar 0) (tCons (tC (.ty "int")) tNil))) (tAndV (tNotV (tCB (kIsi K) (tCons (tVar 0) (tCons (tC (.ty "bool")) tNil)))) (tOp rEq (tVar 0) (tVar 1))))) tNext)
    (tSeq (tIfS (tB (tCB (kIsi K) (tCons (tVar 1) (tCons (tC (.ty "str")) tNil)))) (tRet (tAndV (tCB (kIsi K) (tCons (tVar 0) (tCons (tC (.ty "str")) tNil))) (tOp rEq (tVar 0) (tVar 1)))) tNext)
    (tSeq (tIfS (tTest (tOp rNe (tCB (kIsi K) (tCons (tVar 1) (tCons (tC (.ty "tuple")) tNil))) (tCB (kIsi K) (tCons (tVar 0) (tCons (tC (.ty "tuple")) tNil))))) (tRet (tC (.bl false))) tNext)
    (tSeq (tIfS (tTest (tOp rNe (tCB (kIsi K) (tCons (tVar 1) (tCons (tC (.ty "list")) tNil))) (tCB (kIsi K) (tCons (tVar 0) (tCons (tC (.ty "list")) tNil))))) (tRet (tC (.bl false))) tNext)
    (tSeq (tIfS (tTest (tOp rNe (tCB (kLen K) (tCons (tVar 0) tNil)) (tCB (kLen K) (tCons (tVar 1) tNil)))) (tRet (tC (.bl false))) tNext)
    (tRet (tCB (rAll K) (tCons (tLc (iRng1 (tCons (tCB (kLen K) (tCons (tVar 1) tNil)) tNil)) (gName 2) tYes (tDef (spU K C up) E0 (tCons (tOp (rIx K) (tVar 0) (tVar 2)) (tCons (tOp (rIx K) (tVar 1) (tVar 2)) tNil))) [2]) tNil))))))))))
def tULcount : TS := (tSeq (tAsg (tPer 0) (gTup K 3 (gCons (gName 2) (gCons (gName 3) (gCons (gName 4) gNil)))))
    (tSeq (tAsg (tLc (iList K (tPer 2)) (gName 8) (tTest (tOp (rI0 fun i j => V.bl (decide (j ≤ i))) (tVar 8) (tVar 3))) (tPer 8) [8]) (gName 5))
    (tSeq (tIfS (tTest (tOp (rI0 fun i j => V.bl (decide (i < j))) (tVar 1) (tOp (rI0 fun i j => V.int (i + j)) (tVar 3) (tVar 4)))) (tRet (tCB (kLen K) (tCons (tLc (iList K (tPer 2)) (gName 8) (tTest (tOp (rI0 fun i j => V.bl (decide (i ≤ j))) (tVar 8) (tVar 1))) (tPer 8) [8]) tNil))) tNext)
    (tSeq (tAsg (tTup (tCons (tOp (rI CDiv fun i j => V.int (i / j)) (tOp (rI0 fun i j => V.int (i - j)) (tVar 1) (tVar 3)) (tVar 4)) (tCons (tOp (rI (fun _ j => 0 < j) fun i j => V.int (i % j)) (tOp (rI0 fun i j => V.int (i - j)) (tVar 1) (tVar 3)) (tVar 4)) tNil))) (gTup K 2 (gCons (gName 6) (gCons (gName 7) gNil))))
    (tRet (tOp (rI0 fun i j => V.int (i + j)) (tOp (rI0 fun i j => V.int (i + j)) (tOp (rI0 fun i j => V.int (i - j)) (tCB (kLen K) (tCons (tVar 2) tNil)) (tCB (kLen K) (tCons (tVar 5) tNil))) (tOp (rI CMul fun i j => V.int (i * j)) (tVar 6) (tCB (kLen K) (tCons (tVar 5) tNil)))) (tCB (kLen K) (tCons (tLc (iList K (tPer 5)) (gName 8) (tTest (tOp (rI0 fun i j => V.bl (decide (i ≤ j))) (tOp (rI0 fun i j => V.int (i - j)) (tVar 8) (tVar 3)) (tVar 7))) (tPer 8) [8]) tNil))))))))
end
def uLequal (up : UP) : US := (uSeq (uIfS (uB (uOp qIsNon (uVar 1) (uC .non))) (uRet (uOp qIsNon (uVar 0) (uC .non))) uNext)
    (uSeq (uIfS (uB (uIsi "bool" (uVar 1))) (uRet (uAndV (uIsi "bool" (uVar 0)) (uOp qEq (uVar 0) (uVar 1)))) uNext)
    (uSeq (uIfS (uB (uIsi "int" (uVar 1))) (uRet (uAndV (uIsi "int" (uVar 0)) (uAndV (uNotV (uIsi "bool" (uVar 0))) (uOp qEq (uVar 0) (uVar 1))))) uNext)
    (uSeq (uIfS (uB (uIsi "str" (uVar 1))) (uRet (uAndV (uIsi "str" (uVar 0)) (uOp qEq (uVar 0) (uVar 1)))) uNext)
    (uSeq (uIfS (uB (uOp qNe (uIsi "tuple" (uVar 1)) (uIsi "tuple" (uVar 0)))) (uRet (uC (.bl false))) uNext)
    (uSeq (uIfS (uB (uOp qNe (uIsi "list" (uVar 1)) (uIsi "list" (uVar 0)))) (uRet (uC (.bl false))) uNext)
    (uSeq (uIfS (uB (uOp qNe (uCB gLen (uCons (uVar 0) uNil)) (uCB gLen (uCons (uVar 1) uNil)))) (uRet (uC (.bl false))) uNext)
    (uRet (uCB gAll (uCons (uLc (uIRng1 (uCons (uCB gLen (uCons (uVar 1) uNil)) uNil)) (uName 2) uYes (uDef up (uCons (uOp qIx (uVar 0) (uVar 2)) (uCons (uOp qIx (uVar 1) (uVar 2)) uNil))) [2]) uNil))))))))))
theorem simLequal {K : PySem.W.Frag} {C : Addr} {up : UP} (B : Bs) (hK : B.K = K) (hC : B.C = C) : SimS B (tULequal K C up) (uLequal up) := by
  subst hK hC
  exact (sS_seq (sS_if (sT_test (SimE.w (sE_op s2_IsNon sW_var (SimE.w sE_non)))) (sS_ret (sE_op s2_IsNon sW_var (SimE.w sE_non))) sS_next)
    (sS_seq (sS_if (sT_B (SimE.w (sE_isi sW_var))) (sS_ret (sE_andV (SimE.w (sE_isi sW_var)) (sE_op s2_Eq sW_var sW_var))) sS_next)
    (sS_seq (sS_if (sT_B (SimE.w (sE_isi sW_var))) (sS_ret (sE_andV (SimE.w (sE_isi sW_var)) (sE_andV (SimE.w (sE_notV (SimE.w (sE_isi sW_var)))) (sE_op s2_Eq sW_var sW_var)))) sS_next)
    (sS_seq (sS_if (sT_B (SimE.w (sE_isi sW_var))) (sS_ret (sE_andV (SimE.w (sE_isi sW_var)) (sE_op s2_Eq sW_var sW_var))) sS_next)
    (sS_seq (sS_if (sT_test (SimE.w (sE_op s2_Ne (SimE.w (sE_isi sW_var)) (SimE.w (sE_isi sW_var))))) (sS_ret sE_bl) sS_next)
    (sS_seq (sS_if (sT_test (SimE.w (sE_op s2_Ne (SimE.w (sE_isi sW_var)) (SimE.w (sE_isi sW_var))))) (sS_ret sE_bl) sS_next)
    (sS_seq (sS_if (sT_test (SimE.w (sE_op s2_Ne (SimE.w (sE_cb sk_len (sA_cons sW_var sA_nil))) (SimE.w (sE_cb sk_len (sA_cons sW_var sA_nil)))))) (sS_ret sE_bl) sS_next)
    (sS_ret (sE_cb sk_all (sA_cons (SimE.w (SimN.e (sN_lc (sI_rng1 (sA_cons (SimE.w (sE_cb sk_len (sA_cons sW_var sA_nil))) sA_nil)) ktw_name sT_yes (sE_def (sP_cons (sE_op s2_ix sW_var sW_var) (sP_cons (sE_op s2_ix sW_var sW_var) sP_nil)))))) sA_nil))))))))))
def uLcount : US := (uSeq (uAsg (uPer 0) (uGTup 3 (uGCons (uName 2) (uGCons (uName 3) (uGCons (uName 4) uGNil)))))
    (uSeq (uAsg (uLc (uIL (uPer 2)) (uName 8) (uB (uOp (qI0 fun i j => D.bl (decide (j ≤ i))) (uVar 8) (uVar 3))) (uPer 8) [8]) (uName 5))
    (uSeq (uIfS (uB (uOp (qI0 fun i j => D.bl (decide (i < j))) (uVar 1) (uOp (qI0 fun i j => D.int (i + j)) (uVar 3) (uVar 4)))) (uRet (uCB gLen (uCons (uLc (uIL (uPer 2)) (uName 8) (uB (uOp (qI0 fun i j => D.bl (decide (i ≤ j))) (uVar 8) (uVar 1))) (uPer 8) [8]) uNil))) uNext)
    (uSeq (uAsg (uTup (uCons (uOp (qI CDiv fun i j => D.int (i / j)) (uOp (qI0 fun i j => D.int (i - j)) (uVar 1) (uVar 3)) (uVar 4)) (uCons (uOp (qI (fun _ j => 0 < j) fun i j => D.int (i % j)) (uOp (qI0 fun i j => D.int (i - j)) (uVar 1) (uVar 3)) (uVar 4)) uNil))) (uGTup 2 (uGCons (uName 6) (uGCons (uName 7) uGNil))))
    (uRet (uOp (qI0 fun i j => D.int (i + j)) (uOp (qI0 fun i j => D.int (i + j)) (uOp (qI0 fun i j => D.int (i - j)) (uCB gLen (uCons (uVar 2) uNil)) (uCB gLen (uCons (uVar 5) uNil))) (uOp (qI CMul fun i j => D.int (i * j)) (uVar 6) (uCB gLen (uCons (uVar 5) uNil)))) (uCB gLen (uCons (uLc (uIL (uPer 5)) (uName 8) (uB (uOp (qI0 fun i j => D.bl (decide (i ≤ j))) (uOp (qI0 fun i j => D.int (i - j)) (uVar 8) (uVar 3)) (uVar 7))) (uPer 8) [8]) uNil))))))))
theorem simLcount {K : PySem.W.Frag} {C : Addr} (B : Bs) (hK : B.K = K) (hC : B.C = C) : SimS B (tULcount K) uLcount := by
  subst hK hC
  exact (sS_seq (sS_asg sE_per (sG_tup (sGs_cons sG_name (sGs_cons sG_name (sGs_cons sG_name sGs_nil)))))
    (sS_seq (sS_asg (SimN.e (sN_lc (sI_list sE_per) ktw_name (sT_test (SimE.w (sE_op (s2_I0 (fun _ _ _ => .bl)) sW_var sW_var))) sE_per)) sG_name)
    (sS_seq (sS_if (sT_test (SimE.w (sE_op (s2_I0 (fun _ _ _ => .bl)) sW_var (SimE.w (sE_op (s2_I0 (fun _ _ _ => .int)) sW_var sW_var))))) (sS_ret (sE_cb sk_len (sA_cons (SimE.w (SimN.e (sN_lc (sI_list sE_per) ktw_name (sT_test (SimE.w (sE_op (s2_I0 (fun _ _ _ => .bl)) sW_var sW_var))) sE_per))) sA_nil))) sS_next)
    (sS_seq (sS_asg (sE_tup (sP_cons (sE_op (s2_I (fun _ _ _ => .int)) (SimE.w (sE_op (s2_I0 (fun _ _ _ => .int)) sW_var sW_var)) sW_var) (sP_cons (sE_op (s2_I (fun _ _ _ => .int)) (SimE.w (sE_op (s2_I0 (fun _ _ _ => .int)) sW_var sW_var)) sW_var) sP_nil))) (sG_tup (sGs_cons sG_name (sGs_cons sG_name sGs_nil))))
    (sS_ret (sE_op (s2_I0 (fun _ _ _ => .int)) (SimE.w (sE_op (s2_I0 (fun _ _ _ => .int)) (SimE.w (sE_op (s2_I0 (fun _ _ _ => .int)) (SimE.w (sE_cb sk_len (sA_cons sW_var sA_nil))) (SimE.w (sE_cb sk_len (sA_cons sW_var sA_nil))))) (SimE.w (sE_op (s2_I (fun _ _ _ => .int)) sW_var (SimE.w (sE_cb sk_len (sA_cons sW_var sA_nil))))))) (SimE.w (sE_cb sk_len (sA_cons (SimE.w (SimN.e (sN_lc (sI_list sE_per) ktw_name (sT_test (SimE.w (sE_op (s2_I0 (fun _ _ _ => .bl)) (SimE.w (sE_op (s2_I0 (fun _ _ _ => .int)) sW_var sW_var)) sW_var))) sE_per))) sA_nil)))))))))
end TkL


local macro_rules | `(tactic| walk_at "eq6") => `(tactic| repeat (first | (simp only [TkL.e_isi, TkL.is_int_bool, TkL.is_int_int, TkL.is_int_str, TkL.is_int_tuple, TkL.is_int_list, TkL.is_bl_bool, TkL.is_bl_int, TkL.is_bl_str, TkL.is_bl_tuple, TkL.is_bl_list, TkL.is_str_bool, TkL.is_str_int, TkL.is_str_str, TkL.is_str_tuple, TkL.is_str_list, TkL.is_non_bool, TkL.is_non_int, TkL.is_non_str, TkL.is_non_tuple, TkL.is_non_list, TkL.is_tup_bool, TkL.is_tup_int, TkL.is_tup_str, TkL.is_tup_tuple, TkL.is_tup_list, TkL.is_lst_bool, TkL.is_lst_int, TkL.is_lst_str, TkL.is_lst_tuple, TkL.is_lst_list, TkL.isNonD]) | (with_reducible refine TkL.isn_i ?_) | walk_at "ew"))
namespace TkL
open PySem PySem.Spec PySem.Calls PyProof.Rows L2 Tk
theorem eq_tail {m : Nat} {P : D → Prop} {x y : D} {i j : List D} (hx : x = .lst i ∨ x = .tup i) (hy : y = .lst j ∨ y = .tup j) (hj : j.length ≤ 1000) (pi : ∀ d ∈ i, PlD m d) (pj : ∀ d ∈ j, PlD m d) (hf : i ≠ j → P (.bl false)) (ht : i = j → P (.bl true)) :
    if (!decide ((i.length : Int) = j.length)) = true then P (D.bl false)
    else
      (-2 ^ 62 ≤ (j.length : Int) ∧ (j.length : Int) < 2 ^ 62) ∧
        LC (uName 2) uYes (uDef (upEqual0 (m + 1)) (uCons (uOp qIx (uVar 0) (uVar 2)) (uCons (uOp qIx (uVar 1) (uVar 2)) uNil)))
          [2] (fun x _ => gAll [x] fun z => P z) (rngD 0 (j.length : Int).toNat) [Sl.val x, Sl.val y, Sl.no] := by
  by_cases hl : i.length = j.length
  · rw [if_neg (by rw [hl]; simp)]
    refine ⟨by omega, ?_⟩
    rw [Int.toNat_natCast]
    refine lc_inv (fun k acc => ∃ bs : List Bool, acc = bL bs ∧ bs.length = k ∧ (bs.all id = true ↔ i.take k = j.take k)) ⟨[], rfl, rfl, by simp⟩ ?_ ?_
    · rintro k d acc hd ⟨bs, rfl, hk, hb⟩
      obtain ⟨hk2, rfl⟩ := rngD_mem0 hd
      obtain ⟨u, hu⟩ : ∃ u, i[k]? = some u := ⟨_, List.getElem?_eq_getElem (by omega)⟩
      obtain ⟨w, hw⟩ : ∃ w, j[k]? = some w := ⟨_, List.getElem?_eq_getElem hk2⟩
      walk_at "ew"
      refine ix_i i hx hu ?_
      refine ix_i j hy hw ?_
      refine ⟨u, w, rfl, pi u (List.mem_of_getElem? hu), pj w (List.mem_of_getElem? hw), fun c hc => ?_⟩
      have e1 : i.take (k + 1) = i.take k ++ [u] := by rw [List.take_succ, hu]; rfl
      have e2 : j.take (k + 1) = j.take k ++ [w] := by rw [List.take_succ, hw]; rfl
      refine ⟨by unfold bL; rw [List.length_map]; omega, bs ++ [c], by unfold bL; rw [List.map_append]; rfl, by simp [hk], ?_⟩
      rw [e1, e2, List.all_append, Bool.and_eq_true, hb]
      constructor
      · rintro ⟨h1, h2⟩
        have : c = true := by simpa using h2
        rw [h1, hc.mp this]
      · intro h3
        have := List.append_inj h3 (by rw [List.length_take, List.length_take]; omega)
        refine ⟨this.1, ?_⟩
        have e : u = w := by simpa using this.2
        simp [hc.mpr e]
    · rintro acc ⟨bs, rfl, hk, hb⟩
      rw [rngD_length] at hk hb
      rw [List.take_of_length_le (by omega), List.take_of_length_le (by omega)] at hb
      refine all_i ?_
      cases h : bs.all id with
      | true => exact ht (hb.mp h)
      | false => exact hf fun z => by rw [hb.mpr z] at h; cases h
  · rw [if_pos (by rw [decide_eq_false (by omega)]; rfl)]
    exact hf fun z => hl (by rw [z])
theorem rdUequal (n : Nat) (ds : List D) (P : D → Prop) (h : upEqualN n ds P) : uLequal (upEqual0 n) { nx := fun _ => P .non, rt := P } (startU ["_law_actual", "_law_expected", "_law_k"] ds) := by
  obtain ⟨a, e, rfl, pa, pe, h⟩ := h
  show uLequal _ _ [.val a, .val e, .no]
  unfold uLequal
  have hf : a ≠ e → P (.bl false) := fun z => h false ⟨fun q => (by cases q), fun q => absurd q z⟩
  cases e with
  | int j =>
    cases a with
    | int i =>
      walk_at "eq6"
      exact h _ (by simp)
    | bl i =>
      walk_at "eq6"
      exact hf (by intro z; cases z)
    | str i =>
      walk_at "eq6"
      exact hf (by intro z; cases z)
    | non =>
      walk_at "eq6"
      exact hf (by intro z; cases z)
    | tup i =>
      walk_at "eq6"
      exact hf (by intro z; cases z)
    | lst i =>
      walk_at "eq6"
      exact hf (by intro z; cases z)
    | _ => cases n <;> exact pa.elim
  | bl j =>
    cases a with
    | int i =>
      walk_at "eq6"
      exact hf (by intro z; cases z)
    | bl i =>
      walk_at "eq6"
      exact h _ (by simp)
    | str i =>
      walk_at "eq6"
      exact hf (by intro z; cases z)
    | non =>
      walk_at "eq6"
      exact hf (by intro z; cases z)
    | tup i =>
      walk_at "eq6"
      exact hf (by intro z; cases z)
    | lst i =>
      walk_at "eq6"
      exact hf (by intro z; cases z)
    | _ => cases n <;> exact pa.elim
  | str j =>
    cases a with
    | int i =>
      walk_at "eq6"
      exact hf (by intro z; cases z)
    | bl i =>
      walk_at "eq6"
      exact hf (by intro z; cases z)
    | str i =>
      walk_at "eq6"
      exact h _ (by simp)
    | non =>
      walk_at "eq6"
      exact hf (by intro z; cases z)
    | tup i =>
      walk_at "eq6"
      exact hf (by intro z; cases z)
    | lst i =>
      walk_at "eq6"
      exact hf (by intro z; cases z)
    | _ => cases n <;> exact pa.elim
  | non =>
    cases a with
    | int i =>
      walk_at "eq6"
      exact hf (by intro z; cases z)
    | bl i =>
      walk_at "eq6"
      exact hf (by intro z; cases z)
    | str i =>
      walk_at "eq6"
      exact hf (by intro z; cases z)
    | non =>
      walk_at "eq6"
      exact h _ (by simp)
    | tup i =>
      walk_at "eq6"
      exact hf (by intro z; cases z)
    | lst i =>
      walk_at "eq6"
      exact hf (by intro z; cases z)
    | _ => cases n <;> exact pa.elim
  | tup j =>
    cases a with
    | int i =>
      walk_at "eq6"
      exact hf (by intro z; cases z)
    | bl i =>
      walk_at "eq6"
      exact hf (by intro z; cases z)
    | str i =>
      walk_at "eq6"
      exact hf (by intro z; cases z)
    | non =>
      walk_at "eq6"
      exact hf (by intro z; cases z)
    | tup i =>
      walk_at "eq6"
      cases n with
      | zero => exact pe.elim
      | succ m => exact eq_tail (.inr rfl) (.inr rfl) pe.1 pa.2 pe.2 (fun z => hf fun q => z (by cases q; rfl)) fun z => h true ⟨fun _ => by rw [z], fun _ => rfl⟩
    | lst i =>
      walk_at "eq6"
      exact hf (by intro z; cases z)
    | _ => cases n <;> exact pa.elim
  | lst j =>
    cases a with
    | int i =>
      walk_at "eq6"
      exact hf (by intro z; cases z)
    | bl i =>
      walk_at "eq6"
      exact hf (by intro z; cases z)
    | str i =>
      walk_at "eq6"
      exact hf (by intro z; cases z)
    | non =>
      walk_at "eq6"
      exact hf (by intro z; cases z)
    | tup i =>
      walk_at "eq6"
      exact hf (by intro z; cases z)
    | lst i =>
      walk_at "eq6"
      cases n with
      | zero => exact pe.elim
      | succ m => exact eq_tail (.inl rfl) (.inl rfl) pe.1 pa.2 pe.2 (fun z => hf fun q => z (by cases q; rfl)) fun z => h true ⟨fun _ => by rw [z], fun _ => rfl⟩
    | _ => cases n <;> exact pa.elim
  | _ => cases n <;> exact pe.elim
end TkL


namespace TkL
open PySem PySem.Spec PySem.Calls PyProof.Rows L2 Tk
def VB.rv (v : VB) : RV := ⟨v.e, v.b, v.l, v.o⟩
theorem VOk.rwf {v : VB} (ok : VOk v) : WF v.rv.early v.rv.beg v.rv.len v.rv.offs := ok.wf
theorem VOk.rhas {v : VB} (ok : VOk v) (t : Int) : v.rv.has t = v.has t := (ok.has t).symm
theorem count_v {v : VB} {r : RV} (ok : VOk v) (rb : RB r) (hr : ∀ t, r.has t = v.has t) (t : Int) : r.count t = v.rv.count t := by
  have := count_ind (f := fun t => r.count t - v.rv.count t) (fun t q => by rw [count_neg rb.c.wf q, count_neg ok.rwf q]; rfl) (fun t q => by
    rw [count_step rb.c.wf, count_step ok.rwf, hr, ok.rhas]; omega) t
  omega
theorem filt_len {l : List Int} {p : Int → Bool} : (l.filter p).length + (l.filter fun x => !p x).length = l.length := by
  induction l with
  | nil => rfl
  | cons a l ih =>
    rw [List.filter_cons, List.filter_cons]
    cases h : p a <;> simp [h] <;> omega
theorem eo_len {v : VB} : (v.e.length : Int) = v.ts.length - v.o.length := by
  have := filt_len (l := v.ts) (p := fun t => decide (t < v.b))
  have e : (v.ts.filter fun x => !decide (x < v.b)) = v.ts.filter fun t => decide (v.b ≤ t) := List.filter_congr fun x _ => by
    rw [Bool.eq_iff_iff]; simp
  rw [e] at this
  unfold VB.e VB.o
  rw [List.length_map]; omega
theorem o_len {v : VB} : v.o.length = (v.ts.filter fun t => decide (v.b ≤ t)).length := by unfold VB.o; rw [List.length_map]
theorem cnt_o {v : VB} {x : Int} : cntLe v.o x = ((v.ts.filter fun t => decide (v.b ≤ t)).filter fun t => decide (t - v.b ≤ x)).length := by
  unfold cntLe VB.o
  rw [List.filter_map, List.length_map]
  rfl
theorem cnt_lo {v : VB} {t : Int} (ok : VOk v) (h : t < v.b + v.l) : v.rv.count t = (cntLe v.ts t : Nat) := by
  have w := ok.wf
  have l1 := ok.l1
  unfold RV.count
  show (if t < v.b then ((cntLe v.e t : Nat) : Int) else (v.e.length : Nat) + (t - v.b) / v.l * (v.o.length : Nat) + (cntLe v.o ((t - v.b) % v.l) : Nat)) = _
  by_cases c : t < v.b
  · rw [if_pos c]
    unfold cntLe VB.e
    rw [List.filter_filter]
    congr 2
    refine List.filter_congr fun x _ => ?_
    rw [Bool.eq_iff_iff]; simp; omega
  · rw [if_neg c, Int.ediv_eq_zero_of_lt (by omega) (by omega), Int.emod_eq_of_lt (by omega) (by omega), cnt_o]
    have f1 := filt_len (l := v.ts.filter fun x => decide (x ≤ t)) (p := fun t => decide (t < v.b))
    rw [List.filter_filter, List.filter_filter] at f1
    have e1 : (v.ts.filter fun a => decide (a < v.b) && decide (a ≤ t)) = v.e := by
      unfold VB.e
      refine List.filter_congr fun x _ => ?_
      rw [Bool.eq_iff_iff]; simp; omega
    have e2 : ((v.ts.filter fun t => decide (v.b ≤ t)).filter fun x => decide (x - v.b ≤ t - v.b)) = v.ts.filter fun a => (!decide (a < v.b)) && decide (a ≤ t) := by
      rw [List.filter_filter]
      refine List.filter_congr fun x _ => ?_
      rw [Bool.eq_iff_iff]; simp; omega
    rw [e1] at f1
    rw [e2]
    unfold cntLe
    omega
def upLawCount : UP := fun ds P => ∃ v t, ds = [VB.d v, .int t] ∧ VOk v ∧ v.ts.length ≤ 1000000 ∧ P (.int (v.rv.count t))
theorem rdUcount (ds : List D) (P : D → Prop) (h : upLawCount ds P) : uLcount { nx := fun _ => P .non, rt := P } (startU ["_law_value_here", "_law_tick", "_law_ticks", "_law_begin", "_law_length", "_law_late", "_law_rounds", "_law_rest", "_law_one"] ds) := by
  obtain ⟨v, t, rfl, ok, vl, h⟩ := h
  have l1 := ok.l1
  have lb := ok.lb
  show uLcount _ [.val v.d, .val (.int t), .no, .no, .no, .no, .no, .no, .no]
  unfold uLcount
  walk_at "ew"
  show uGTup 3 _ (.tup [.lst (iL v.ts), .int v.b, .int v.l]) _ _
  walk_at "ew"
  refine lc_int (fun x => decide (v.b ≤ x)) D.int vl (fun x acc R hx ha hR => ?_) ?_
  · walk_at "ew"
    by_cases c : v.b ≤ x
    · rw [decide_eq_true c] at hR ⊢
      walk_at "ew"
      exact ⟨ha, hR⟩
    · rw [decide_eq_false c] at hR ⊢
      walk_at "ew"
      exact hR
  walk_at "ew"
  have hl : ((List.map D.int (List.filter (fun x => decide (v.b ≤ x)) v.ts)).length : Int) = v.o.length := by rw [List.length_map, o_len]
  have ol : v.o.length ≤ 1000000 := by rw [o_len]; exact Nat.le_trans (List.length_filter_le _ _) vl
  by_cases c : t < v.b + v.l
  · rw [decide_eq_true c, if_pos rfl]
    refine lc_int (fun x => decide (x ≤ t)) D.int vl (fun x acc R hx ha hR => ?_) ?_
    · walk_at "ew"
      by_cases c2 : x ≤ t
      · rw [decide_eq_true c2] at hR ⊢
        walk_at "ew"
        exact ⟨ha, hR⟩
      · rw [decide_eq_false c2] at hR ⊢
        walk_at "ew"
        exact hR
    walk_at "ew"
    rw [List.length_map]
    rw [cnt_lo ok c] at h
    exact h
  · rw [decide_eq_false c, if_neg Bool.false_ne_true, hl]
    refine ⟨⟨by omega, by omega⟩, by omega, .inr ⟨by omega, by omega⟩, ?_⟩
    have e : List.map D.int (List.filter (fun x => decide (v.b ≤ x)) v.ts) = iL (List.filter (fun x => decide (v.b ≤ x)) v.ts) := rfl
    rw [e]
    refine lc_int (fun x => decide (x - v.b ≤ (t - v.b) % v.l)) D.int (by rw [← o_len]; exact ol) (fun x acc R hx ha hR => ?_) ?_
    · walk_at "ew"
      by_cases c2 : x - v.b ≤ (t - v.b) % v.l
      · rw [decide_eq_true c2] at hR ⊢
        walk_at "ew"
        exact ⟨ha, hR⟩
      · rw [decide_eq_false c2] at hR ⊢
        walk_at "ew"
        exact hR
    walk_at "ew"
    rw [List.length_map, ← cnt_o]
    unfold RV.count at h
    rw [if_neg (show ¬ t < v.rv.beg by show ¬ t < v.b; omega)] at h
    have el := eo_len (v := v)
    have h' : P (.int ((v.e.length : Int) + (t - v.b) / v.l * v.o.length + (cntLe v.o ((t - v.b) % v.l) : Nat))) := h
    rw [el] at h'
    exact h'
end TkL


namespace TkL
open PySem PySem.Spec PySem.Calls PyProof.Rows L2 Tk
section
variable {r : RV} {v : VB} {P : D → Prop} {t : Int}
theorem eqT_i {a e : D} (h : a = e) (pl : PlD 3 e) (p : P (.bl true)) : upEqual [a, e] P := ⟨a, e, rfl, h ▸ pl, pl, fun c hc => hc.mpr h ▸ p⟩
theorem PlD.iL {n : Nat} {l : List Int} (h : l.length ≤ 1000) : PlD (n + 1) (.tup (iL l)) := ⟨by rw [iL_len]; exact h, fun x hx => by
  obtain ⟨i, _, rfl⟩ := List.mem_map.mp hx
  cases n <;> trivial⟩
theorem PlD.iLl {n : Nat} {l : List Int} (h : l.length ≤ 1000) : PlD (n + 1) (.lst (TkL.iL l)) := ⟨by rw [iL_len]; exact h, fun x hx => by
  obtain ⟨i, _, rfl⟩ := List.mem_map.mp hx
  cases n <;> trivial⟩
theorem lawCount_i (ok : VOk v) (vt : v.ts.length ≤ 1000) (rb : RB r) (hr : ∀ t, r.has t = v.has t) (h : P (.int (r.count t))) : upLawCount [v.d, .int t] P := ⟨v, t, rfl, ok, by omega, by rw [← count_v ok rb hr]; exact h⟩
theorem hasR_i (ok : VOk v) (hr : ∀ t, r.has t = v.has t) (h : P (.bl (r.has t))) : upHas [v.d, .int t] P := hasv_i ok (by rw [← hr]; exact h)
theorem some_i (h : ∀ t, 0 ≤ t → t ≤ 1000000000000000000 → P (.int t)) : upSomeTick [.src] P := ⟨rfl, h⟩
end
theorem ifNo {A B : Prop} (b : B) : if false = true then A else B := by rw [if_neg Bool.false_ne_true]; exact b
theorem neSame {a b : Int} {A B : Prop} (h : a = b) (q : B) : if (!decide (a = b)) = true then A else B := by rw [decide_eq_true h]; exact ifNo q
theorem neSameB {a b : Bool} {A B : Prop} (h : a = b) (q : B) : if (!decide (a = b)) = true then A else B := by rw [decide_eq_true h]; exact ifNo q
theorem neSameS {a : Str} {A B : Prop} (q : B) : if (!decide (a = a)) = true then A else B := by rw [decide_eq_true rfl]; exact ifNo q
theorem notY {p A B : Prop} [Decidable p] (h : p) (q : B) : if (!decide p) = true then A else B := by rw [decide_eq_true h]; exact ifNo q
end TkL


namespace TkL
open PySem PySem.Spec PySem.Calls PyProof.Rows L2 Tk
section
variable {r : RV} {v : VB} {P : D → Prop} {t : Int}
theorem parse_i (rb : RB r) (he : r.offs ≠ [] → r.beg + r.offs.getD 0 0 ≤ 100000) (hf : r.offs = [] → r.early.getLastD 0 ≤ 100000) (hl : r.early.length + r.offs.length ≤ 10000) (h : P (.row r)) : upParse [.cls, .str (rowText r)] P := by
  obtain ⟨S, h1, h2⟩ := parse_text rb he hf
  have tl := text_len rb
  refine ⟨_, S, rfl, by omega, h1, fun q qb hq => ?_⟩
  rw [qb.ext rb fun t => (hq t).trans (h2 t)]; exact h
theorem PlU.parse (pl : PlU v r) (h : P (.row r)) : upParse [.cls, .str (rowText r)] P := by
  have el := pl.rb.el
  have ol := pl.rb.ol
  have bb := pl.bb
  have ll := pl.ll
  refine parse_i pl.rb (fun ho => ?_) (fun z => absurd z pl.ho) (by omega) h
  obtain ⟨o, l, eo⟩ : ∃ o l, r.offs = o :: l := by
    cases h : r.offs with
    | nil => exact absurd h ho
    | cons o l => exact ⟨o, l, rfl⟩
  have := (pl.rb.c.wf.ow o (by rw [eo]; simp)).2
  rw [eo]
  show r.beg + o ≤ _
  omega
end
def tix (f : Int → Bool) (n : Nat) : List Int := ((List.range n).map fun k : Nat => (k : Int)).filter f
theorem tix_succ {f : Int → Bool} {n : Nat} : tix f (n + 1) = tix f n ++ if f n = true then [(n : Int)] else [] := by
  unfold tix
  rw [List.range_succ, List.map_append, List.filter_append]
  congr 1
  show List.filter f [(n : Int)] = _
  rw [List.filter_cons]; rfl
theorem tix_len_le {f : Int → Bool} {n : Nat} : (tix f n).length ≤ n := by
  unfold tix
  exact Nat.le_trans (List.length_filter_le _ _) (by rw [List.length_map, List.length_range]; exact Nat.le_refl _)
section
variable {r : RV}
theorem tix_count (w : WF r.early r.beg r.len r.offs) (n : Nat) : r.count ((n : Int) - 1) = (tix r.has n).length := by
  induction n with
  | zero => rw [count_neg w (by decide)]; rfl
  | succ n ih =>
    have s := count_step w (n : Int)
    rw [show (((n + 1 : Nat) : Int) - 1) = n by omega, s, ih, tix_succ, List.length_append]
    cases r.has (n : Int) <;> simp
theorem tix_get (w : WF r.early r.beg r.len r.offs) : ∀ (n k : Nat), k < (tix r.has n).length → r.has ((tix r.has n).getD k 0) = true ∧ r.count ((tix r.has n).getD k 0) = k + 1 ∧ 0 ≤ (tix r.has n).getD k 0 ∧ (tix r.has n).getD k 0 < n
  | 0, k, h => absurd h (by simp [tix])
  | n + 1, k, h => by
    have ih := tix_get w n k
    rw [tix_succ] at h ⊢
    rcases Nat.lt_or_ge k (tix r.has n).length with c | c
    · have := ih c
      rw [List.getD_eq_getElem?_getD, List.getElem?_append_left c, ← List.getD_eq_getElem?_getD]
      exact ⟨this.1, this.2.1, this.2.2.1, by omega⟩
    · cases hn : r.has (n : Int) with
      | false => rw [hn] at h; simp at h; omega
      | true =>
        rw [hn] at h
        simp at h
        have e : k = (tix r.has n).length := by omega
        rw [if_pos rfl, List.getD_eq_getElem?_getD, List.getElem?_append_right c, e, Nat.sub_self]
        show r.has (n : Int) = true ∧ r.count (n : Int) = _ ∧ 0 ≤ (n : Int) ∧ (n : Int) < _
        have s := count_step w (n : Int)
        rw [tix_count w n, hn, if_pos rfl] at s
        exact ⟨hn, s, by omega, by omega⟩
theorem tix_nth (w : WF r.early r.beg r.len r.offs) (ho : r.offs ≠ []) {n k : Nat} (h : k < (tix r.has n).length) : r.nth k = (tix r.has n).getD k 0 := by
  have := tix_get w n k h
  exact nth_eq w (by omega) (.inr ho) this.1 this.2.1
theorem tix_laps (w : WF r.early r.beg r.len r.offs) (ho : r.offs ≠ []) {n : Nat} (h : r.early.length + r.offs.length < (tix r.has n).length) :
    (((List.range ((tix r.has n).length - 1)).map fun k => (tix r.has n).getD (k + 1) 0 - (tix r.has n).getD k 0).take (r.early.length + r.offs.length)) = r.flaps ++ r.laps := by
  have fl := flaps_len ho
  have la := laps_len (r := r)
  refine List.ext_getElem (by simp [fl, la]; omega) fun i h1 h2 => ?_
  have hi : i < r.early.length + r.offs.length := by rw [List.length_append, fl, la] at h2; exact h2
  have lg := laps_get w ho 1 (k := i) (by simp [fl, la]; omega)
  have e1 : r.flaps ++ (List.replicate 1 r.laps).flatten = r.flaps ++ r.laps := by simp
  rw [e1, List.getD_eq_getElem?_getD, List.getElem?_eq_getElem h2] at lg
  have lg' : (r.flaps ++ r.laps)[i] = r.nth ((i : Int) + 1) - r.nth i := lg
  rw [lg', List.getElem_take, List.getElem_map, List.getElem_range, ← tix_nth w ho (n := n) (k := i) (by omega), ← tix_nth w ho (n := n) (k := i + 1) (by omega)]
  rfl
end
end TkL


namespace TkL
open Tk
def lapAt (fs ls : List Int) (n : Nat) : Int := if n < fs.length then fs.getD n 0 else ls.getD ((n - fs.length) % ls.length) 0
def psum (f : Nat → Int) : Nat → Int
  | 0 => 0
  | n + 1 => psum f n + f n
theorem psum_congr {f g : Nat → Int} : ∀ {n : Nat}, (∀ i, i < n → f i = g i) → psum f n = psum g n
  | 0, _ => rfl
  | n + 1, h => by
    show psum f n + f n = psum g n + g n
    rw [psum_congr fun i hi => h i (by omega), h n (by omega)]
theorem psum_add {f : Nat → Int} (m : Nat) : ∀ n : Nat, psum f (m + n) = psum f m + psum (fun i => f (m + i)) n
  | 0 => by show psum f m = psum f m + 0; omega
  | n + 1 => by
    show psum f (m + n) + f (m + n) = psum f m + (psum (fun i => f (m + i)) n + f (m + n))
    rw [psum_add m n]; omega
theorem psum_list {l : List Int} : ∀ {n : Nat}, n ≤ l.length → psum (fun i => l.getD i 0) n = (l.take n).sum
  | 0, _ => by simp [psum]
  | n + 1, h => by
    show psum (fun i => l.getD i 0) n + l.getD n 0 = _
    rw [psum_list (by omega), List.take_succ, List.sum_append, List.getD_eq_getElem?_getD, List.getElem?_eq_getElem (by omega)]
    simp
theorem tks_iff : ∀ {a : Int} {l : List Int} {x : Int}, x ∈ (tks a l).dropLast ↔ ∃ n, n < l.length ∧ x = a + (l.take n).sum
  | a, [], x => by simp [tks]
  | a, b :: l, x => by
    show x ∈ (a :: tks (a + b) l).dropLast ↔ _
    rw [List.dropLast_cons_of_ne_nil tks_ne, List.mem_cons, tks_iff]
    constructor
    · rintro (rfl | ⟨n, h, rfl⟩)
      · exact ⟨0, by simp, by simp⟩
      · exact ⟨n + 1, by simpa using h, by rw [List.take_succ_cons, List.sum_cons]; omega⟩
    · rintro ⟨n, h, rfl⟩
      cases n with
      | zero => exact .inl (by simp)
      | succ n => exact .inr ⟨n, by simpa using h, by rw [List.take_succ_cons, List.sum_cons]; omega⟩
theorem psum_cyc {ls : List Int} (q : Nat) {j : Nat} (hj : j ≤ ls.length) (hl : 0 < ls.length) : psum (fun i => ls.getD (i % ls.length) 0) (q * ls.length + j) = q * ls.sum + (ls.take j).sum := by
  have one : ∀ {j : Nat}, j ≤ ls.length → psum (fun i => ls.getD (i % ls.length) 0) j = (ls.take j).sum := fun {j} h => by
    rw [← psum_list h]
    refine psum_congr fun i hi => ?_
    rw [Nat.mod_eq_of_lt (by omega)]
  induction q with
  | zero => rw [Nat.zero_mul, Nat.zero_add, one hj]; simp
  | succ q ih =>
    have e : (q + 1) * ls.length + j = ls.length + (q * ls.length + j) := by rw [Nat.succ_mul]; omega
    rw [e, psum_add, one (Nat.le_refl _), List.take_length]
    have e2 : psum (fun i => ls.getD ((ls.length + i) % ls.length) 0) (q * ls.length + j) = psum (fun i => ls.getD (i % ls.length) 0) (q * ls.length + j) := psum_congr fun i _ => by rw [Nat.add_mod_left]
    rw [e2, ih]
    have : ((q + 1 : Nat) : Int) * ls.sum = q * ls.sum + ls.sum := by rw [Int.natCast_add, Int.add_mul]; simp
    omega
theorem psum_lap {fs ls : List Int} (q : Nat) {j : Nat} (hj : j ≤ ls.length) (hl : 0 < ls.length) : psum (lapAt fs ls) (fs.length + (q * ls.length + j)) = fs.sum + (q * ls.sum + (ls.take j).sum) := by
  rw [psum_add, ← psum_cyc q hj hl]
  have e1 : psum (lapAt fs ls) fs.length = fs.sum := by
    rw [psum_congr (g := fun i => fs.getD i 0) fun i hi => by unfold lapAt; rw [if_pos hi], psum_list (Nat.le_refl _), List.take_length]
  rw [e1]
  congr 1
  refine psum_congr fun i _ => ?_
  unfold lapAt
  rw [if_neg (by omega), Nat.add_sub_cancel_left]
theorem plan_iff {s : Int} {fs ls : List Int} (hf : ∀ x ∈ fs, 1 ≤ x) (hl : ∀ x ∈ ls, 1 ≤ x) (hn : ls ≠ []) (t : Int) : planHas s fs ls t = true ↔ ∃ n, t = s + psum (lapAt fs ls) n := by
  have lp := List.length_pos_iff.mpr hn
  have tf := (tks_front (a := s) hf).2
  have tl := (tks_front (a := 0) hl).2
  have L1 : 1 ≤ ls.sum := by
    have := (tl 0 (tks_first hn)).2
    omega
  unfold planHas
  rcases Int.lt_or_le t (s + fs.sum) with c | c
  · rw [qhas_lo c, decide_eq_true_iff, tks_iff]
    constructor
    · rintro ⟨n, h, rfl⟩
      refine ⟨n, ?_⟩
      rw [psum_congr (g := fun i => fs.getD i 0) fun i hi => by unfold lapAt; rw [if_pos (by omega)], psum_list (by omega)]
    · rintro ⟨n, e⟩
      rcases Nat.lt_or_ge n fs.length with h | h
      · refine ⟨n, h, ?_⟩
        rw [e, psum_congr (g := fun i => fs.getD i 0) fun i hi => by unfold lapAt; rw [if_pos (by omega)], psum_list (by omega)]
      · exfalso
        have d := Nat.div_add_mod (n - fs.length) ls.length
        have lt := Nat.mod_lt (n - fs.length) lp
        have := psum_lap (fs := fs) (ls := ls) ((n - fs.length) / ls.length) (j := (n - fs.length) % ls.length) (by omega) lp
        have e2 : fs.length + ((n - fs.length) / ls.length * ls.length + (n - fs.length) % ls.length) = n := by rw [Nat.mul_comm ((n - fs.length) / ls.length) ls.length]; omega
        rw [e2] at this
        have m := tl _ (tks_iff.mpr ⟨_, lt, rfl⟩)
        have nn : 0 ≤ (((n - fs.length) / ls.length : Nat) : Int) * ls.sum := Int.mul_nonneg (Int.natCast_nonneg _) (by omega)
        omega
  · rw [qhas_hi c, decide_eq_true_iff, tks_iff]
    constructor
    · rintro ⟨j, h, e⟩
      rw [Int.zero_add] at e
      have dm := Int.mul_ediv_add_emod (t - (s + fs.sum)) ls.sum
      have q0 : 0 ≤ (t - (s + fs.sum)) / ls.sum := Int.ediv_nonneg (by omega) (by omega)
      refine ⟨fs.length + (((t - (s + fs.sum)) / ls.sum).toNat * ls.length + j), ?_⟩
      rw [psum_lap _ (by omega) lp, Int.toNat_of_nonneg q0, ← e]
      rw [Int.mul_comm] at dm
      omega
    · rintro ⟨n, e⟩
      rcases Nat.lt_or_ge n fs.length with h | h
      · exfalso
        rw [psum_congr (g := fun i => fs.getD i 0) fun i hi => by unfold lapAt; rw [if_pos (by omega)], psum_list (by omega)] at e
        have := (tf _ (tks_iff.mpr ⟨n, h, rfl⟩)).2
        omega
      · have d := Nat.div_add_mod (n - fs.length) ls.length
        have lt := Nat.mod_lt (n - fs.length) lp
        have := psum_lap (fs := fs) (ls := ls) ((n - fs.length) / ls.length) (j := (n - fs.length) % ls.length) (by omega) lp
        have e2 : fs.length + ((n - fs.length) / ls.length * ls.length + (n - fs.length) % ls.length) = n := by rw [Nat.mul_comm ((n - fs.length) / ls.length) ls.length]; omega
        rw [e2] at this
        refine ⟨_, lt, ?_⟩
        have m := tl _ (tks_iff.mpr ⟨_, lt, rfl⟩)
        have e3 : t - (s + fs.sum) = (ls.take ((n - fs.length) % ls.length)).sum + (((n - fs.length) / ls.length : Nat) : Int) * ls.sum := by omega
        rw [e3, Int.add_mul_emod_self_right, Int.emod_eq_of_lt (by omega) (by omega)]
        omega
theorem plan_same {s : Int} {fs ls gs ms : List Int} (hf : ∀ x ∈ fs, 1 ≤ x) (hl : ∀ x ∈ ls, 1 ≤ x) (hn : ls ≠ []) (hg : ∀ x ∈ gs, 1 ≤ x) (hm : ∀ x ∈ ms, 1 ≤ x) (hn2 : ms ≠ []) (h : ∀ n, lapAt fs ls n = lapAt gs ms n) (t : Int) : planHas s fs ls t = planHas s gs ms t := by
  rw [Bool.eq_iff_iff, plan_iff hf hl hn, plan_iff hg hm hn2]
  have e : ∀ n, psum (lapAt fs ls) n = psum (lapAt gs ms) n := fun n => psum_congr fun i _ => h i
  simp only [e]
end TkL


namespace TkL
open PySem PySem.Spec PySem.Calls PyProof.Rows L2 Tk
theorem eqS_i {r : RV} {P : D → Prop} (h : P (.bl true)) : upEq [.row r, .row r] P := e_upEq (by rw [decide_eq_true rfl]; exact h)
theorem rep_getD {l : List Int} : ∀ (k : Nat) {j : Nat}, j < k * l.length → (List.replicate k l).flatten.getD j 0 = l.getD (j % l.length) 0
  | 0, j, h => by omega
  | k + 1, j, h => by
    rw [List.replicate_succ, List.flatten_cons]
    rcases Nat.lt_or_ge j l.length with c | c
    · rw [List.getD_eq_getElem?_getD, List.getElem?_append_left c, ← List.getD_eq_getElem?_getD, Nat.mod_eq_of_lt c]
    · rw [List.getD_eq_getElem?_getD, List.getElem?_append_right c, ← List.getD_eq_getElem?_getD, rep_getD k (by rw [Nat.succ_mul] at h; omega)]
      congr 1
      exact (Nat.mod_eq_sub_mod c).symm
theorem rep_len {α : Type} {l : List α} {k : Nat} : (List.replicate k l).flatten.length = k * l.length := by simp
theorem rep_sum {l : List Int} : ∀ {k : Nat}, (List.replicate k l).flatten.sum = k * l.sum
  | 0 => by simp
  | k + 1 => by
    rw [List.replicate_succ, List.flatten_cons, List.sum_append, rep_sum, Int.natCast_add, Int.add_mul]
    simp; omega
theorem rep_mem {α : Type} {l : List α} {k : Nat} {x : α} (h : x ∈ (List.replicate k l).flatten) : x ∈ l := by
  obtain ⟨m, hm, hx⟩ := List.mem_flatten.mp h
  rw [(List.mem_replicate.mp hm).2] at hx; exact hx
theorem rep_iL {l : List Int} {k : Nat} : (List.replicate k (iL l)).flatten = iL (List.replicate k l).flatten := by
  induction k with
  | zero => rfl
  | succ k ih => rw [List.replicate_succ, List.replicate_succ, List.flatten_cons, List.flatten_cons, ih, iL_app]
section
variable {fs ls : List Int}
theorem lap_rep {k : Nat} (hk : 1 ≤ k) (n : Nat) : lapAt fs (List.replicate k ls).flatten n = lapAt fs ls n := by
  unfold lapAt
  by_cases c : n < fs.length
  · rw [if_pos c, if_pos c]
  · rw [if_neg c, if_neg c, rep_len]
    rcases Nat.eq_zero_or_pos ls.length with z | z
    · have : ls = [] := List.eq_nil_of_length_eq_zero z
      subst this; simp
    · rw [rep_getD k (Nat.mod_lt _ (Nat.mul_pos hk z)), Nat.mod_mod_of_dvd _ (Nat.dvd_mul_left _ _)]
theorem lap_rot {a : Int} (n : Nat) : lapAt (fs ++ [a]) (ls ++ [a]) n = lapAt fs (a :: ls) n := by
  unfold lapAt
  rw [List.length_append, List.length_append, List.length_cons, List.length_cons, List.length_nil, Nat.zero_add]
  rcases Nat.lt_trichotomy n fs.length with c | c | c
  · rw [if_pos (by omega), if_pos c, List.getD_eq_getElem?_getD, List.getElem?_append_left c, ← List.getD_eq_getElem?_getD]
  · rw [if_pos (by omega), if_neg (by omega), List.getD_eq_getElem?_getD, List.getElem?_append_right (by omega), c, Nat.sub_self, Nat.zero_mod]; rfl
  · rw [if_neg (by omega), if_neg (by omega)]
    have e : n - fs.length = (n - (fs.length + 1)) + 1 := by omega
    rw [e]
    generalize n - (fs.length + 1) = i
    have lt := Nat.mod_lt i (show 0 < ls.length + 1 by omega)
    have e2 : (i + 1) % (ls.length + 1) = (i % (ls.length + 1) + 1) % (ls.length + 1) := by rw [Nat.add_mod i 1]; simp [Nat.add_mod]
    rw [e2]
    generalize i % (ls.length + 1) = j at lt
    rcases Nat.lt_or_ge j ls.length with h | h
    · rw [Nat.mod_eq_of_lt (by omega), List.getD_eq_getElem?_getD, List.getElem?_append_left h]; rfl
    · have : j = ls.length := by omega
      subst this
      rw [Nat.mod_self, List.getD_eq_getElem?_getD, List.getElem?_append_right (Nat.le_refl _), Nat.sub_self]; rfl
theorem lap_unroll {k : Nat} (n : Nat) : lapAt (fs ++ (List.replicate k ls).flatten) ls n = lapAt fs ls n := by
  unfold lapAt
  rw [List.length_append, rep_len]
  by_cases c : n < fs.length
  · rw [if_pos (by omega), if_pos c, List.getD_eq_getElem?_getD, List.getElem?_append_left c, ← List.getD_eq_getElem?_getD]
  · rw [if_neg c]
    by_cases d : n < fs.length + k * ls.length
    · rw [if_pos d, List.getD_eq_getElem?_getD, List.getElem?_append_right (by omega), ← List.getD_eq_getElem?_getD, rep_getD k (by omega)]
    · rw [if_neg d]
      have e : n - fs.length = (n - (fs.length + k * ls.length)) + ls.length * k := by rw [Nat.mul_comm ls.length k]; omega
      rw [e, Nat.add_mul_mod_self_left]
end
section
variable {m s : Int} {fs ls gs ms : List Int} {P : D → Prop} {r : RV}
theorem row_same (po : PlanOk m s fs ls) (hr : ∀ t, r.has t = (planV s fs ls).has t) (rb : RB r) (hg : ∀ x ∈ gs, x ∈ fs ∨ x ∈ ls) (hm : ∀ x ∈ ms, x ∈ ls) (hn : ms ≠ []) (lg : gs.length ≤ 1000) (lm : ms.length ≤ 300) (h : ∀ n, lapAt gs ms n = lapAt fs ls n) (p : P (.row r)) :
    upLawRow [.tup [.int s, .tup (iL gs), .tup (iL ms)]] P := by
  have f1 : ∀ x ∈ fs, 1 ≤ x := fun x hx => (po.fr x hx).1
  have l1 : ∀ x ∈ ls, 1 ≤ x := fun x hx => (po.lr x hx).1
  have g1 : ∀ x ∈ gs, 1 ≤ x ∧ x ≤ 60 := fun x hx => (hg x hx).elim (po.fr x) (po.lr x)
  have m1 : ∀ x ∈ ms, 1 ≤ x ∧ x ≤ 60 := fun x hx => po.lr x (hm x hx)
  have sg : gs.sum ≤ 60 * gs.length := sum_leK fun x hx => (g1 x hx).2
  have sm : ms.sum ≤ 60 * ms.length := sum_leK fun x hx => (m1 x hx).2
  have s1 := po.s1
  have e : ∀ t, planHas s gs ms t = planHas s fs ls t := plan_same (fun x hx => (g1 x hx).1) (fun x hx => (m1 x hx).1) hn f1 l1 po.ln h
  refine ⟨s, gs, ms, rfl, po.s0, fun x hx => (g1 x hx).1, fun x hx => (m1 x hx).1, lg, by omega, hn, by omega, by omega, fun q qb hq => ?_⟩
  rw [qb.ext rb fun t => by rw [hq, e, hr, planV_has po.s0 f1 l1 po.ln]]; exact p
end
theorem fin_row {T : List Int} (hn : T ≠ []) (hs : T.Pairwise (· < ·)) (h0 : ∀ x ∈ T, 0 ≤ x) (hb : T.getLastD 0 < 200000) : RB ⟨T, T.getLastD 0 + 1, 1, []⟩ ∧ ∀ t, RV.has ⟨T, T.getLastD 0 + 1, 1, []⟩ t = decide (t ∈ T) := by
  have el : T.getLastD 0 = T.getLast hn := by
    cases T with
    | nil => exact absurd rfl hn
    | cons a l => rw [List.getLastD_cons]; exact (List.getLast_eq_getLastD ..).symm
  have mx : ∀ x ∈ T, x ≤ T.getLastD 0 := fun x hx => by
    rw [el]
    have sp := List.dropLast_concat_getLast hn
    rw [← sp] at hs hx
    rcases List.mem_append.mp hx with q | q
    · have := (List.pairwise_append.mp hs).2.2 x q (T.getLast hn) (by simp)
      omega
    · have : x = T.getLast hn := by simpa using q
      omega
  have fc := finite_canon (b := T.getLastD 0 + 1) hs h0 (.inr ⟨T.getLastD 0, by rw [el]; exact List.getLast_mem hn, rfl, mx⟩)
  exact ⟨⟨fc.1, by show T.getLastD 0 + 1 ≤ 200000; omega, by show (1 : Int) ≤ 20000; decide⟩, fc.2⟩
theorem fin_rowText {T : List Int} {b : Int} (hn : T ≠ []) : rowText ⟨T, b, 1, []⟩ = Txt.join " " ((T.getD 0 0 :: diffs T).map numS) := by
  have lp := List.length_pos_iff.mpr hn
  rw [fin_text]
  unfold rowText RV.flaps RV.laps
  simp only [List.length_nil, Nat.add_zero, List.take_nil, List.map_nil, List.append_nil]
  rw [if_neg (by omega), if_pos lp, if_neg (by omega)]
  exact Str.append_empty _
theorem asc_get {T : List Int} (hs : T.Pairwise (· < ·)) {k : Nat} (h : k + 1 < T.length) : T.getD k 0 < T.getD (k + 1) 0 := by
  rw [List.getD_eq_getElem?_getD, List.getD_eq_getElem?_getD, List.getElem?_eq_getElem h, List.getElem?_eq_getElem (by omega)]
  exact List.pairwise_iff_getElem.mp hs k (k + 1) (by omega) h (by omega)

def finR (T : List Int) : RV := ⟨T, T.getLastD 0 + 1, 1, []⟩
structure FinT (T : List Int) : Prop where
  ne : T ≠ []
  s : T.Pairwise (· < ·)
  b : ∀ x ∈ T, 0 ≤ x ∧ x < 100000
  l : T.length ≤ 1000
section
variable {T : List Int} {P : D → Prop}
theorem FinT.last (h : FinT T) : 0 ≤ T.getLastD 0 ∧ T.getLastD 0 < 100000 := by
  have hn := h.ne
  have el : T.getLastD 0 ∈ T := by
    cases T with
    | nil => exact absurd rfl hn
    | cons a l =>
      rw [List.getLastD_cons, ← List.getLast_eq_getLastD (a := a) (l := l) (by simp)]
      exact List.getLast_mem _
  exact h.b _ el
theorem FinT.rb (h : FinT T) : RB (finR T) := (fin_row h.ne h.s (fun x hx => (h.b x hx).1) (by have := h.last; omega)).1
theorem FinT.has (h : FinT T) (t : Int) : (finR T).has t = decide (t ∈ T) := (fin_row h.ne h.s (fun x hx => (h.b x hx).1) (by have := h.last; omega)).2 t
theorem FinT.words (h : FinT T) : ∀ p ∈ ((T.getD 0 0 :: diffs T).map numS), p.length ≤ 6 := by
  intro p hp
  obtain ⟨i, hi, rfl⟩ := List.mem_map.mp hp
  have lp := List.length_pos_iff.mpr h.ne
  have ib : 0 ≤ i ∧ i < 1000000 := by
    rcases List.mem_cons.mp hi with rfl | hi
    · have := h.b _ (Tk.getD_mem lp); omega
    · rw [diffs_rng] at hi
      obtain ⟨k, hk, rfl⟩ := List.mem_map.mp hi
      have hk := List.mem_range.mp hk
      have a := h.b _ (Tk.getD_mem (l := T) (i := k) (by omega))
      have b := h.b _ (Tk.getD_mem (l := T) (i := k + 1) (by omega))
      have c := asc_get h.s (k := k) (by omega)
      omega
  exact (numS_len ib.1 ib.2).2
theorem FinT.join (h : FinT T) (p : P (.str (rowText (finR T)))) : gJoin " " [.lst (strL ((T.getD 0 0 :: diffs T).map numS))] P := by
  have wl := h.words
  have dl : (diffs T).length ≤ 1000 := by rw [diffs_len]; have := h.l; omega
  refine gJoin_s (wsum_ok wl (by rw [List.length_map, List.length_cons]; omega)) ?_
  have e : rowText (finR T) = Txt.join " " ((T.getD 0 0 :: diffs T).map numS) := fin_rowText h.ne
  rw [← e]; exact p
theorem FinT.parse (h : FinT T) (p : P (.row (finR T))) : upParse [.cls, .str (rowText (finR T))] P :=
  parse_i h.rb (fun z => absurd rfl z) (fun _ => by have := h.last; show T.getLastD 0 ≤ _; omega) (by have := h.l; show T.length + 0 ≤ _; omega) p
theorem FinT.step (h : FinT T) {k : Int} (h0 : 0 ≤ k) (h1 : k + 1 < T.length) (p : P (.str (numS (T.getD (k.toNat + 1) 0 - T.getD k.toNat 0)))) : gStr [.int (T.getD (k.toNat + 1) 0 - T.getD k.toNat 0)] P := by
  have a := h.b _ (Tk.getD_mem (l := T) (i := k.toNat) (by omega))
  have b := h.b _ (Tk.getD_mem (l := T) (i := k.toNat + 1) (by omega))
  have c := asc_get h.s (k := k.toNat) (by omega)
  exact gStr_n (by omega) (by omega) p
theorem FinT.first (h : FinT T) (p : P (.str (numS (T.getD 0 0)))) : gStr [.int (T.getD 0 0)] P := by
  have a := h.b _ (Tk.getD_mem (l := T) (i := 0) (List.length_pos_iff.mpr h.ne))
  exact gStr_n a.1 (by omega) p
theorem diffs_str {T : List Int} : List.map (fun k : Int => D.str (numS (T.getD (k.toNat + 1) 0 - T.getD k.toNat 0))) (List.filter (fun _ => true) (List.map (fun k : Nat => (k : Int)) (List.range (T.length - 1)))) = strL ((diffs T).map numS) := by
  rw [filter_true, diffs_rng]
  unfold strL
  rw [List.map_map, List.map_map, List.map_map]
  exact List.map_congr_left fun k _ => by show D.str _ = D.str _; rw [Int.toNat_natCast]
end
theorem fin_count {T : List Int} {t : Int} (h : T.getLastD 0 < t) : (finR T).count t = T.length := by
  unfold RV.count finR
  simp only
  rw [if_neg (by omega)]
  simp [cntLe]
def nevR : RV := ⟨[], 0, 1, []⟩
theorem nev_rb : RB nevR := ⟨(finite_canon List.Pairwise.nil (fun x hx => absurd hx List.not_mem_nil) (.inl ⟨rfl, rfl⟩)).1, by decide, by decide⟩
theorem nev_has (t : Int) : nevR.has t = false := by
  have := (finite_canon (e := []) (b := 0) List.Pairwise.nil (fun x hx => absurd hx List.not_mem_nil) (.inl ⟨rfl, rfl⟩)).2 t
  show RV.has ⟨[], 0, 1, []⟩ t = false
  rw [this]; simp
theorem nev_parse {P : D → Prop} (p : P (.row nevR)) : upParse [.cls, .str "never"] P :=
  parse_i (r := nevR) nev_rb (fun z => absurd rfl z) (fun _ => by decide) (by decide) p
theorem join_nil : ∀ (ws : List Str), Txt.join "" ws = catS ws
  | [] => by rw [TL.join_eq]; rfl
  | [w] => by rw [TL.join_eq]; show w = _; unfold catS; exact (sE w).symm
  | w :: v :: ws => by
    have ih := join_nil (v :: ws)
    rw [TL.join_eq] at ih ⊢
    show w ++ "" ++ Str.join "" (v :: ws) = _
    rw [ih, catS_cons w (v :: ws), sA]
    congr 1
    exact sE _
theorem nth_zero {r : RV} (ho : r.offs ≠ []) : r.nth 0 = if 0 < r.early.length then r.early.getD 0 0 else r.beg + r.offs.getD 0 0 := by
  have op := List.length_pos_iff.mpr ho
  unfold RV.nth
  by_cases c : 0 < r.early.length
  · rw [if_pos (by omega), if_pos c]; rfl
  · have e : (r.early.length : Int) = 0 := by omega
    rw [if_neg (by omega), if_neg c, e]
    simp
theorem end_text {r : RV} (ho : r.offs ≠ []) : rowText r = numS (r.nth 0) ++ catS (sepN r.flaps) ++ (" |" : Str) ++ catS (sepN r.laps) := by
  have op := List.length_pos_iff.mpr ho
  unfold rowText
  rw [if_neg (by omega), if_pos op, nth_zero ho, sA, sA, sA]
end TkL


namespace Tk
def pick (l : List Int) (s n : Int) : List Int := ((List.range l.length).filter fun i : Nat => decide (((i : Int) + s) % n = 0)).map fun i => l.getD i 0
section
variable {l : List Int} {s n x : Int}
theorem mem_pick : x ∈ pick l s n ↔ ∃ i : Nat, i < l.length ∧ ((i : Int) + s) % n = 0 ∧ l.getD i 0 = x := by
  unfold pick
  simp only [List.mem_map, List.mem_filter, List.mem_range, decide_eq_true_iff]
  constructor
  · rintro ⟨i, ⟨h1, h2⟩, h3⟩; exact ⟨i, h1, h2, h3⟩
  · rintro ⟨i, h1, h2, h3⟩; exact ⟨i, ⟨h1, h2⟩, h3⟩
theorem getD_lt (h : l.Pairwise (· < ·)) {i j : Nat} (hij : i < j) (hj : j < l.length) : l.getD i 0 < l.getD j 0 := by
  rw [List.getD_eq_getElem?_getD, List.getD_eq_getElem?_getD, List.getElem?_eq_getElem hj, List.getElem?_eq_getElem (by omega)]
  exact List.pairwise_iff_getElem.mp h i j _ _ hij
theorem pick_sorted (h : l.Pairwise (· < ·)) : (pick l s n).Pairwise (· < ·) := by
  unfold pick
  rw [List.pairwise_map]
  refine List.Pairwise.imp_of_mem ?_ (List.pairwise_lt_range.filter _)
  intro a b ha hb hab
  exact getD_lt h hab (List.mem_range.mp (List.mem_filter.mp hb).1)
theorem pick_len : (pick l s n).length ≤ l.length := by
  unfold pick
  rw [List.length_map]
  exact Nat.le_trans (List.length_filter_le _ _) (by rw [List.length_range]; exact Nat.le_refl _)
end
def tkk (r : RV) : Nat → List Int
  | 0 => []
  | j + 1 => tkk r j ++ r.offs.map fun o => (j : Int) * r.len + o
section
variable {r : RV} (w : WF r.early r.beg r.len r.offs)
theorem tkk_len {r : RV} : ∀ j, (tkk r j).length = j * r.offs.length
  | 0 => by simp [tkk]
  | j + 1 => by
    show (tkk r j ++ _).length = _
    rw [List.length_append, tkk_len j, List.length_map, Nat.add_mul, Nat.one_mul]
include w
theorem nth_in0 {k : Nat} (h : k < r.offs.length) : r.nth (r.early.length + k) = r.beg + r.offs.getD k 0 := by
  unfold RV.nth
  rw [if_neg (by omega)]
  have e : (r.early.length : Int) + k - r.early.length = k := by omega
  rw [e, Int.ediv_eq_zero_of_lt (by omega) (by omega), Int.emod_eq_of_lt (by omega) (by omega), Int.zero_mul, Int.toNat_natCast]
  omega
theorem tkk_get : ∀ (j : Nat) (p : Nat), p < j * r.offs.length → (tkk r j).getD p 0 = r.nth (r.early.length + p) - r.beg
  | 0, p, h => by rw [Nat.zero_mul] at h; exact absurd h (Nat.not_lt_zero _)
  | j + 1, p, h => by
    show (tkk r j ++ r.offs.map fun o => (j : Int) * r.len + o).getD p 0 = _
    rw [List.getD_eq_getElem?_getD]
    by_cases c : p < j * r.offs.length
    · rw [List.getElem?_append_left (by rw [tkk_len]; exact c), ← List.getD_eq_getElem?_getD, tkk_get j p c]
    · rw [Nat.add_mul, Nat.one_mul] at h
      have hk : p - j * r.offs.length < r.offs.length := by omega
      have ho : r.offs ≠ [] := fun z => by rw [z] at hk; exact absurd hk (Nat.not_lt_zero _)
      rw [List.getElem?_append_right (by rw [tkk_len]; omega), tkk_len, List.getElem?_map, List.getElem?_eq_getElem hk]
      show (j : Int) * r.len + r.offs[p - j * r.offs.length] = _
      have e : (r.early.length : Int) + p = (r.early.length + (p - j * r.offs.length : Nat)) + (j : Int) * r.offs.length := by
        have : ((j * r.offs.length : Nat) : Int) = (j : Int) * r.offs.length := Int.natCast_mul _ _
        omega
      rw [e, nth_rounds w ho (by omega) (by omega), nth_in0 w hk, List.getD_eq_getElem?_getD, List.getElem?_eq_getElem hk]
      show _ = r.beg + r.offs[p - j * r.offs.length] + _ - _
      omega
theorem tkk_sorted (j : Nat) : (tkk r j).Pairwise (· < ·) := by
  rw [List.pairwise_iff_getElem]
  intro a b ha hb hab
  have ha' : a < j * r.offs.length := by rw [← tkk_len]; exact ha
  have hb' : b < j * r.offs.length := by rw [← tkk_len]; exact hb
  have ho : r.offs ≠ [] := fun z => by rw [z] at hb'; simp at hb'
  have e1 := tkk_get w j a ha'
  have e2 := tkk_get w j b hb'
  rw [List.getD_eq_getElem?_getD, List.getElem?_eq_getElem ha] at e1
  rw [List.getD_eq_getElem?_getD, List.getElem?_eq_getElem hb] at e2
  have := nth_lt w ho (m := r.early.length + a) (n := r.early.length + b) (by omega) (by omega)
  have e1' : (tkk r j)[a] = r.nth (r.early.length + a) - r.beg := e1
  have e2' : (tkk r j)[b] = r.nth (r.early.length + b) - r.beg := e2
  omega
theorem count_before : r.count (r.beg - 1) = r.early.length := by
  unfold RV.count
  rw [if_pos (by omega), cntLe_all (fun x hx => by have := (w.er x hx).2; omega)]
theorem count_full {k : Int} (h : 0 ≤ k) : r.count (r.beg + k * r.len - 1) = r.early.length + k * r.offs.length := by
  have l1 := w.l1
  have h1 := count_rounds w h
  have s1 := count_step w (r.beg + k * r.len)
  have s2 := count_step w r.beg
  have kl : 0 ≤ k * r.len := Int.mul_nonneg h (by omega)
  have p : r.has (r.beg + k * r.len) = r.has r.beg := by
    rw [RV.has_hi (by omega), RV.has_hi (Int.le_refl _)]
    have : r.beg + k * r.len - r.beg = (r.beg - r.beg) + r.len * k := by rw [Int.mul_comm k]; omega
    rw [this, Int.add_mul_emod_self_left]
  rw [p] at s1
  rw [count_before w] at s2
  omega
theorem count_shift {t k : Int} (ht : r.beg ≤ t) (hk : 0 ≤ k) : r.count (t + r.len * k) = r.count t + k * r.offs.length := by
  have l1 := w.l1
  have kl : 0 ≤ r.len * k := Int.mul_nonneg (by omega) hk
  unfold RV.count
  rw [if_neg (by omega), if_neg (by omega)]
  have e : t + r.len * k - r.beg = (t - r.beg) + r.len * k := by omega
  rw [e, Int.add_mul_ediv_left _ _ (by omega), Int.add_mul_emod_self_left, Int.add_mul]
  omega
end
def thinS (r : RV) (n t : Int) : Bool := r.has t && decide ((r.count t - 1) % n = 0)
theorem thin_set {r : RV} (w : WF r.early r.beg r.len r.offs) {n : Int} (hn : 1 ≤ n) : WF (pick r.early 0 n) r.beg (r.len * n) (pick (tkk r n.toNat) r.early.length n) ∧ ∀ t, qhas (pick r.early 0 n) r.beg (r.len * n) (pick (tkk r n.toNat) r.early.length n) t = thinS r n t := by
  have l1 := w.l1
  have ln : 1 ≤ r.len * n := by
    have := Int.mul_le_mul l1 hn (by omega) (by omega)
    omega
  have en : ((n.toNat : Nat) : Int) = n := by omega
  have em : ((n.toNat * r.offs.length : Nat) : Int) = n * r.offs.length := by rw [Int.natCast_mul, en]
  refine raw_set w.b0 ln (fun t ht => ?_) (fun t ht => ?_) (pick_sorted w.es) (fun x => ?_) (pick_sorted (tkk_sorted w _)) (fun x => ?_)
  · unfold thinS RV.has
    rw [qhas_neg w ht]; rfl
  · unfold thinS
    have p : r.has t = r.has (t + r.len * n) := (qhas_per (e := r.early) (b := r.beg) (o := r.offs) l1).mul (by omega) (by omega) t ht
    rw [← p, count_shift w ht (by omega)]
    have e : r.count t + n * (r.offs.length : Int) - 1 = r.count t - 1 + n * (r.offs.length : Int) := by omega
    rw [e, Int.add_mul_emod_self_left]
  · unfold thinS
    rw [mem_pick, Bool.and_eq_true, decide_eq_true_iff]
    constructor
    · rintro ⟨i, h1, h2, rfl⟩
      have q : r.nth i = r.early.getD i 0 := by unfold RV.nth; rw [if_pos (by omega), Int.toNat_natCast]
      have k := nth_ok w (n := i) (by omega) (.inl (by omega))
      rw [q] at k
      refine ⟨⟨k.1, ?_⟩, (w.er _ (getD_mem h1)).2⟩
      rw [k.2]
      have : (i : Int) + 1 - 1 = (i : Int) + 0 := by omega
      rw [this]; exact h2
    · rintro ⟨⟨h1, h2⟩, h3⟩
      rw [RV.has_lo h3, decide_eq_true_iff] at h1
      obtain ⟨i, hi, rfl⟩ := List.mem_iff_getElem.mp h1
      have q : r.nth i = r.early[i] := by
        unfold RV.nth
        rw [if_pos (by omega), Int.toNat_natCast, List.getD_eq_getElem?_getD, List.getElem?_eq_getElem hi]; rfl
      have k := nth_ok w (n := i) (by omega) (.inl (by omega))
      rw [q] at k
      rw [k.2] at h2
      refine ⟨i, hi, ?_, by rw [List.getD_eq_getElem?_getD, List.getElem?_eq_getElem hi]; rfl⟩
      have : (i : Int) + 1 - 1 = (i : Int) + 0 := by omega
      rw [this] at h2; exact h2
  · unfold thinS
    rw [mem_pick, Bool.and_eq_true, decide_eq_true_iff]
    have full := count_full w (k := n) (by omega)
    have bef := count_before w
    rw [Int.mul_comm n r.len] at full
    constructor
    · rintro ⟨p, h1, h2, h3⟩
      rw [tkk_len] at h1
      have ho : r.offs ≠ [] := fun z => by rw [z] at h1; simp at h1
      rw [tkk_get w _ _ h1] at h3
      have k := nth_ok w (n := r.early.length + p) (by omega) (.inr ho)
      have e : x + r.beg = r.nth (r.early.length + p) := by omega
      rw [e]
      refine ⟨⟨k.1, ?_⟩, ?_, ?_⟩
      · rw [k.2]
        have : (r.early.length : Int) + p + 1 - 1 = p + r.early.length := by omega
        rw [this]; exact h2
      · rcases Int.lt_or_le (r.nth (r.early.length + p)) r.beg with z | z
        · have := count_mono w (t := r.nth (r.early.length + p)) (u := r.beg - 1) (by omega)
          omega
        · omega
      · rcases Int.lt_or_le (r.nth (r.early.length + p)) (r.beg + r.len * n) with z | z
        · omega
        · have := count_lt w (t := r.beg + r.len * n - 1) (u := r.nth (r.early.length + p)) (by omega) k.1
          omega
    · rintro ⟨⟨h1, h2⟩, h3, h4⟩
      have ho : r.offs ≠ [] := fun z => by
        rw [RV.has_hi (by omega), z] at h1; simp at h1
      have c1 := count_lt w (t := r.beg - 1) (u := x + r.beg) (by omega) h1
      have c2 := count_mono w (t := x + r.beg) (u := r.beg + r.len * n - 1) (by omega)
      refine ⟨(r.count (x + r.beg) - 1 - r.early.length).toNat, ?_, ?_, ?_⟩
      · rw [tkk_len]; omega
      · have : (((r.count (x + r.beg) - 1 - r.early.length).toNat : Nat) : Int) + r.early.length = r.count (x + r.beg) - 1 := by omega
        rw [this]; exact h2
      · rw [tkk_get w _ _ (by omega)]
        have e : (r.early.length : Int) + ((r.count (x + r.beg) - 1 - r.early.length).toNat : Nat) = r.count (x + r.beg) - 1 := by omega
        rw [e, nth_eq w (u := x + r.beg) (by omega) (.inr ho) h1 (by omega)]
        omega
end Tk


namespace TkL
open Tk L2
section
variable {a q : RV}
theorem cnt_shift (ha : RB a) (hq : RB q) {k : Int} (k0 : 0 ≤ k) (e : ∀ t, q.has t = a.has (t - k)) (t : Int) : q.count t = a.count (t - k) := by
  have := count_ind (f := fun t => q.count t - a.count (t - k)) (fun t h => by rw [count_neg hq.c.wf h, count_neg ha.c.wf (by omega)]; rfl) (fun t h => by
    rw [count_step hq.c.wf, count_step ha.c.wf (t - k), e]
    have : t - k - 1 = t - 1 - k := by omega
    rw [this]; omega) t
  omega
theorem ceil_step {c n : Int} (n1 : 1 ≤ n) : (c + 1 + n - 1) / n = (c + n - 1) / n + if c % n = 0 then 1 else 0 := by
  have hq : n * (c / n) + c % n = c := Int.mul_ediv_add_emod _ _
  have s0 : 0 ≤ c % n := Int.emod_nonneg _ (by omega)
  have s1 : c % n < n := Int.emod_lt_of_pos _ (by omega)
  generalize c / n = k at *
  generalize c % n = s at *
  have d1 := div_unique (u := c + 1 + n - 1) (q := k + 1) (s := s) (l := n) s0 s1 (by rw [Int.add_mul, Int.mul_comm k]; omega)
  by_cases z : s = 0
  · have d2 := div_unique (u := c + n - 1) (q := k) (s := n - 1) (l := n) (by omega) (by omega) (by rw [Int.mul_comm k]; omega)
    rw [d1.1, d2.1, if_pos z]
  · have d2 := div_unique (u := c + n - 1) (q := k + 1) (s := s - 1) (l := n) (by omega) (by omega) (by rw [Int.add_mul, Int.mul_comm k]; omega)
    rw [d1.1, d2.1, if_neg z]; omega
theorem cnt_thin (ha : RB a) (hq : RB q) {n : Int} (n1 : 1 ≤ n) (e : ∀ t, q.has t = thinS a n t) (t : Int) : q.count t = (a.count t + n - 1) / n := by
  have := count_ind (f := fun t => q.count t - (a.count t + n - 1) / n) (fun t h => by
    rw [count_neg hq.c.wf h, count_neg ha.c.wf h, Int.zero_add, Int.ediv_eq_zero_of_lt (by omega) (by omega)]; rfl) (fun t h => by
    rw [count_step hq.c.wf, e]
    unfold thinS
    rw [count_step ha.c.wf t]
    cases a.has t
    · simp
    · have := ceil_step (c := a.count (t - 1)) n1
      simp only [if_true, Bool.true_and, decide_eq_true_iff]
      have e1 : a.count (t - 1) + 1 - 1 = a.count (t - 1) := by omega
      rw [e1, this]; omega) t
  omega
theorem nth_of (hq : RB q) {n u : Int} (h0 : 0 ≤ n) (hu : q.has u = true) (hc : q.count u = n + 1) : (n < q.early.length ∨ q.offs ≠ []) ∧ q.nth n = u := by
  have := nth_in hq.c.wf h0 (t := u) (by omega)
  exact ⟨this.1, nth_eq hq.c.wf h0 this.1 hu hc⟩
theorem thin_ne (ha : RB a) {n : Int} (e : ∀ t, q.has t = thinS a n t) : (∃ t, q.has t = true) ↔ ∃ t, a.has t = true := by
  constructor
  · rintro ⟨t, h⟩
    rw [e] at h
    unfold thinS at h
    exact ⟨t, (Bool.and_eq_true _ _ ▸ h).1⟩
  · rintro ⟨t, h⟩
    have c := count_lt ha.c.wf (t := t - 1) (by omega) h
    have c0 := count_nn ha.c.wf (t - 1)
    have := nth_in ha.c.wf (n := 0) (t := t) (Int.le_refl _) (by omega)
    refine ⟨a.nth 0, ?_⟩
    rw [e]
    unfold thinS
    rw [this.2.1, this.2.2.1]
    simp
theorem thin_end (ha : RB a) (hq : RB q) {n : Int} (n1 : 1 ≤ n) (e : ∀ t, q.has t = thinS a n t) : q.offs ≠ [] ↔ a.offs ≠ [] := by
  constructor
  · exact end_mono hq ha fun t h => by
      rw [e] at h
      unfold thinS at h
      exact (Bool.and_eq_true _ _ ▸ h).1
  · intro ho
    refine (endless_iff hq).mpr fun N => ?_
    have c0 := count_nn ha.c.wf N
    have k0 : a.count N ≤ a.count N * n := by
      have := Int.mul_le_mul_of_nonneg_left n1 c0
      omega
    have := nth_ok ha.c.wf (n := a.count N * n) (by omega) (.inr ho)
    refine ⟨a.nth (a.count N * n), ?_, ?_⟩
    · rcases Int.lt_or_le (a.nth (a.count N * n)) N with z | z
      · have := count_mono ha.c.wf (t := a.nth (a.count N * n)) (u := N) (by omega)
        omega
      · exact z
    · rw [e]
      unfold thinS
      rw [this.1, this.2]
      have : a.count N * n + 1 - 1 = a.count N * n := by omega
      rw [this, Int.mul_emod_left]; rfl
theorem thin_thin (ha : RB a) (hq : RB q) {n m : Int} (n1 : 1 ≤ n) (m1 : 1 ≤ m) (e : ∀ t, q.has t = thinS a n t) (t : Int) : thinS q m t = thinS a (n * m) t := by
  have c := cnt_thin ha hq n1 e t
  unfold thinS
  rw [e, c]
  unfold thinS
  rw [Bool.and_assoc]
  congr 1
  have hq : n * ((a.count t - 1) / n) + (a.count t - 1) % n = a.count t - 1 := Int.mul_ediv_add_emod _ _
  by_cases z : (a.count t - 1) % n = 0
  · rw [decide_eq_true z, Bool.true_and]
    generalize hk : (a.count t - 1) / n = k at *
    have d1 := div_unique (u := a.count t + n - 1) (q := k + 1) (s := 0) (l := n) (Int.le_refl _) (by omega) (by rw [Int.add_mul, Int.mul_comm k]; omega)
    have e1 : a.count t - 1 = n * k := by omega
    rw [d1.1, e1, Int.mul_emod_mul_of_pos _ _ (by omega)]
    have e2 : k + 1 - 1 = k := by omega
    rw [e2, Bool.eq_iff_iff, decide_eq_true_iff, decide_eq_true_iff]
    constructor
    · intro h; rw [h, Int.mul_zero]
    · intro h
      rcases Int.mul_eq_zero.mp h with h | h
      · omega
      · exact h
  · rw [decide_eq_false z, Bool.false_and]
    refine (decide_eq_false fun h => z ?_).symm
    have := Int.emod_emod_of_dvd (a.count t - 1) (show n ∣ n * m from ⟨m, rfl⟩)
    rw [← this, h]; rfl
theorem thin_shift {b : RV} (ha : RB a) (hb : RB b) {k n : Int} (k0 : 0 ≤ k) (e : ∀ t, b.has t = a.has (t - k)) (t : Int) : thinS b n t = thinS a n (t - k) := by
  unfold thinS
  rw [cnt_shift ha hb k0 e, e]
theorem thin_one (t : Int) : thinS a 1 t = a.has t := by
  unfold thinS
  rw [Int.emod_one]; simp
end
section
variable {r s : RV}
theorem eqN_b {P : Bool → Prop} (a : RB r) (b : RB s) (h : ∀ t, r.has t = s.has t) (p : P false) : upEq [.row r, .row s] (fun d => match d with | .bl c => P (!c) | _ => False) := by
  refine e_upEq ?_
  show P (!decide (r = s))
  rw [decide_eq_true (a.ext b h)]; exact p
theorem eqT_b {P : D → Prop} (a : RB r) (b : RB s) (h : ∀ t, r.has t = s.has t) (p : P (.bl true)) : upEq [.row r, .row s] P := by
  refine e_upEq ?_
  rw [decide_eq_true (a.ext b h)]; exact p
theorem RD.own (a : RB r) : RD r.len r.beg r := ⟨a, ⟨1, by omega⟩, Int.le_refl _⟩
theorem shift_b {P : D → Prop} (a : RB r) {k : Int} (k0 : 0 ≤ k) (kM : r.beg + k ≤ 100000) (h : ∀ q, RB q → q.len ∣ r.len → q.beg ≤ r.beg + k → (∀ t, q.has t = r.has (t - k)) → P (.row q)) : upShift [.row r, .int k] P :=
  shift_d a.c.wf.l1 a.c.wf.b0 (RD.own a) k0 kM fun q dq hq => h q dq.rb dq.dv dq.bm hq
theorem thin_b {P : D → Prop} (a : RB r) {n : Int} (n1 : 1 ≤ n) (n2 : n ≤ 20000) (ln : r.len * n ≤ 20000) (h : ∀ q, RB q → q.len ∣ r.len * n → q.beg ≤ r.beg → (∀ t, q.has t = thinS r n t) → P (.row q)) : upThin [.row r, .int n] P := by
  refine ⟨r, n, rfl, a, n1, n2, ln, fun q qb hq => ?_⟩
  have w := a.c.wf
  have l1 := w.l1
  have s := (thin_set w n1)
  have l2 : 1 ≤ r.len * n := by
    have := Int.mul_le_mul l1 n1 (by omega) (by omega)
    omega
  have p : Per q.has r.beg (r.len * n) := fun t ht => by
    have := qhas_per (e := pick r.early 0 n) (b := r.beg) (o := pick (tkk r n.toNat) r.early.length n) l2 t ht
    rw [s.2, s.2] at this
    rw [hq, hq]; exact this
  exact h q qb (qb.dvd l2 p) (qb.begle w.b0 l2 p) hq
end
end TkL



namespace TkL
open PySem PySem.Spec PySem.Calls PyProof.Rows L2 Tk
section
variable (K : PySem.W.Frag) (C : Addr)
def tURmul : TS := (tSeq (tIfS (tNot (tB (tDef (spU K C upIii) E0 (tCons (tPer 1) (tCons (tC (.int 1)) (tCons (tC (.int 20000)) tNil)))))) tNever tNext)
    (tSeq (tAsg (tOp (rI CMul fun i j => V.int (i * j)) (tCB kInt (tCons (tFld K (tVar 0) "length") tNil)) (tCB kInt (tCons (tVar 1) tNil))) (gName 2))
    (tSeq (tIfS (tTest (tOp (rI0 fun i j => V.bl (decide (j < i))) (tVar 2) (tC (.int 20000)))) tNever tNext)
    (tSeq (tAsg (tLc (iEnumA K (tCons (tFld K (tVar 0) "early") tNil)) (gTup K 2 (gCons (gName 7) (gCons (gName 8) gNil))) (tTest (tOp rEq (tOp (rI (fun _ j => 0 < j) fun i j => V.int (i % j)) (tVar 7) (tCB kInt (tCons (tVar 1) tNil))) (tC (.int 0)))) (tPer 8) [7, 8]) (gName 3))
    (tSeq (tAsg (tLst tNil) (gName 4))
    (tSeq (tFor (iRng3 (tCons (tC (.int 0)) (tCons (tVar 2) (tCons (tFld K (tVar 0) "length") tNil)))) (gName 5) (tDrop (tBM K "list" rExtend (tVar 4) (tCons (tLc (iTup K (tFld K (tVar 0) "offsets")) (gName 9) tYes (tOp (rI0 fun i j => V.int (i + j)) (tVar 5) (tVar 9)) [9]) tNil))))
    (tSeq (tAsg (tLc (iEnumA K (tCons (tPer 4) tNil)) (gTup K 2 (gCons (gName 7) (gCons (gName 8) gNil))) (tTest (tOp rEq (tOp (rI (fun _ j => 0 < j) fun i j => V.int (i % j)) (tOp (rI0 fun i j => V.int (i + j)) (tVar 7) (tCB (kLen K) (tCons (tFld K (tVar 0) "early") tNil))) (tCB kInt (tCons (tVar 1) tNil))) (tC (.int 0)))) (tPer 8) [7, 8]) (gName 6))
    (tRet (tDef (spU K C upNormal) E0 (tCons (tPer 3) (tCons (tFld K (tVar 0) "begin") (tCons (tPer 2) (tCons (tPer 6) tNil)))))))))))))
end
def uRmul : US := (uSeq (uIfS (uNot (uB (uDef upIii (uCons (uPer 1) (uCons (uC (.int 1)) (uCons (uC (.int 20000)) uNil)))))) uNever uNext)
    (uSeq (uAsg (uOp (qI CMul fun i j => D.int (i * j)) (uCB gInt (uCons (uFL (uVar 0)) uNil)) (uCB gInt (uCons (uVar 1) uNil))) (uName 2))
    (uSeq (uIfS (uB (uOp (qI0 fun i j => D.bl (decide (j < i))) (uVar 2) (uC (.int 20000)))) uNever uNext)
    (uSeq (uAsg (uLc (uEnum (uCons (uFE (uVar 0)) uNil)) (uGTup 2 (uGCons (uName 7) (uGCons (uName 8) uGNil))) (uB (uOp qEq (uOp (qI (fun _ j => 0 < j) fun i j => D.int (i % j)) (uVar 7) (uCB gInt (uCons (uVar 1) uNil))) (uC (.int 0)))) (uPer 8) [7, 8]) (uName 3))
    (uSeq (uAsgO (uLst uNil) 4)
    (uSeq (uFor (uIRng3 (uCons (uC (.int 0)) (uCons (uVar 2) (uCons (uFL (uVar 0)) uNil)))) (uName 5) (uExt 4 (uLc (uIT (uFO (uVar 0))) (uName 9) uYes (uOp (qI0 fun i j => D.int (i + j)) (uVar 5) (uVar 9)) [9])))
    (uSeq (uAsg (uLc (uEnum (uCons (uPer 4) uNil)) (uGTup 2 (uGCons (uName 7) (uGCons (uName 8) uGNil))) (uB (uOp qEq (uOp (qI (fun _ j => 0 < j) fun i j => D.int (i % j)) (uOp (qI0 fun i j => D.int (i + j)) (uVar 7) (uCB gLen (uCons (uFE (uVar 0)) uNil))) (uCB gInt (uCons (uVar 1) uNil))) (uC (.int 0)))) (uPer 8) [7, 8]) (uName 6))
    (uRet (uDef upNormal (uCons (uPer 3) (uCons (uFB (uVar 0)) (uCons (uPer 2) (uCons (uPer 6) uNil)))))))))))))
theorem simRmul {K : PySem.W.Frag} {C : Addr} (T : TyF K C) (B : Bs) (hK : B.K = K) (hC : B.C = C) : SimS B (tURmul K C) uRmul := by
  subst hK hC
  exact (sS_seq (sS_if (sT_not (sT_B (SimE.w (sE_def (sP_cons sE_per (sP_cons sE_int (sP_cons sE_int sP_nil))))))) sS_never sS_next)
    (sS_seq (sS_asg (sE_op (s2_I (fun _ _ _ => .int)) (SimE.w (sE_cb sk_int (sA_cons (SimE.w (sE_fL T sW_var)) sA_nil))) (SimE.w (sE_cb sk_int (sA_cons sW_var sA_nil)))) sG_name)
    (sS_seq (sS_if (sT_test (SimE.w (sE_op (s2_I0 (fun _ _ _ => .bl)) sW_var (SimE.w sE_int)))) sS_never sS_next)
    (sS_seq (sS_asg (SimN.e (sN_lc (sI_enum (sP_cons (sE_fE T sW_var) sP_nil)) ktw_tup2 (sT_test (SimE.w (sE_op s2_Eq (SimE.w (sE_op (s2_I (fun _ _ _ => .int)) sW_var (SimE.w (sE_cb sk_int (sA_cons sW_var sA_nil))))) (SimE.w sE_int)))) sE_per)) sG_name)
    (sS_seq (sS_asgO (sN_lst sP_nil))
    (sS_seq (sS_for (sI_rng3 (sA_cons (SimE.w sE_int) (sA_cons sW_var (sA_cons (SimE.w (sE_fL T sW_var)) sA_nil)))) sG_name (sS_ext (SimN.e (sN_lc (sI_tup (sE_fO T sW_var)) ktw_name sT_yes (sE_op (s2_I0 (fun _ _ _ => .int)) sW_var sW_var)))))
    (sS_seq (sS_asg (SimN.e (sN_lc (sI_enum (sP_cons sE_per sP_nil)) ktw_tup2 (sT_test (SimE.w (sE_op s2_Eq (SimE.w (sE_op (s2_I (fun _ _ _ => .int)) (SimE.w (sE_op (s2_I0 (fun _ _ _ => .int)) sW_var (SimE.w (sE_cb sk_len (sA_cons (SimE.w (sE_fE T sW_var)) sA_nil))))) (SimE.w (sE_cb sk_int (sA_cons sW_var sA_nil))))) (SimE.w sE_int)))) sE_per)) sG_name)
    (sS_ret (sE_def (sP_cons sE_per (sP_cons (sE_fB T sW_var) (sP_cons sE_per (sP_cons sE_per sP_nil)))))))))))))
end TkL


local macro_rules | `(tactic| walk_at "ewf") => `(tactic| repeat (first | (simp only [TkL.e_fB, TkL.e_fL, TkL.e_fE, TkL.e_fO, TkL.e_never, TkL.e_enum, TkL.e_rng3, TkL.e_ext]) | walk_at "ew"))
namespace TkL
open PySem PySem.Spec PySem.Calls PyProof.Rows L2 Tk
theorem iL_getN {l : List Int} {i : Nat} (h : i < l.length) : (iL l).getD i .non = .int (l.getD i 0) := by
  unfold iL
  rw [List.getD_eq_getElem?_getD, List.getD_eq_getElem?_getD, List.getElem?_map, List.getElem?_eq_getElem h]; rfl
theorem en_mem {l : List Int} {d : D} (h : d ∈ enD (iL l)) : ∃ i : Nat, i < l.length ∧ d = .tup [.int i, .int (l.getD i 0)] := by
  unfold enD at h
  obtain ⟨i, hi, rfl⟩ := List.mem_map.mp h
  rw [List.mem_range, iL_len] at hi
  exact ⟨i, hi, by rw [iL_getN hi]⟩
theorem en_pick {l : List Int} {s n : Int} : ((enD (iL l)).filter fun d => match d with | .tup [.int i, _] => decide ((i + s) % n = 0) | _ => false).map (fun d => match d with | .tup [_, x] => x | d => d) = iL (pick l s n) := by
  unfold enD pick
  rw [List.filter_map, List.map_map]
  show _ = List.map D.int _
  rw [List.map_map, iL_len]
  refine List.map_congr_left fun i hi => ?_
  have := List.mem_range.mp (List.mem_filter.mp hi).1
  show (iL l).getD i .non = _
  rw [iL_getN this]; rfl
theorem lc_pick {g : UG} {ct : UT} {el : UE} {vs : List Nat} {ρ1 : Env} {P : D → Env → Prop} {l : List Int} (s n : Int) (hz : l.length ≤ 1000000) (hs : ∀ (i : Nat) acc (R : List D → Prop), i < l.length → acc.length < 1000000 → R (if decide (((i : Int) + s) % n = 0) = true then acc ++ [.int (l.getD i 0)] else acc) → LCT g ct el vs ρ1 (.tup [.int i, .int (l.getD i 0)]) acc R) (hd : P (.lst (iL (pick l s n))) ρ1) : LC g ct el vs P (enD (iL l)) ρ1 := by
  refine lc_map (fun d => match d with | .tup [.int i, _] => decide ((i + s) % n = 0) | _ => false) (fun d => match d with | .tup [_, x] => x | d => d) (by rw [enD_length, iL_len]; exact hz) (fun x acc R hx ha hR => ?_) (by rw [en_pick]; exact hd)
  obtain ⟨i, hi, rfl⟩ := en_mem hx
  exact hs i acc R hi ha hR
theorem thin_turns {l n : Int} (h1 : 1 ≤ l) (h2 : 1 ≤ n) : (if (0 : Int) < l * n then (l * n - 0 - 1) / l + 1 else 0).toNat = n.toNat := by
  have ln : 1 ≤ l * n := by
    have := Int.mul_le_mul h1 h2 (by omega) (by omega)
    omega
  have d := div_unique (u := l * n - 0 - 1) (q := n - 1) (s := l - 1) (l := l) (by omega) (by omega) (by rw [Int.sub_mul, Int.mul_comm n]; omega)
  rw [if_pos (by omega), d.1]; omega
theorem rdURmul (ds : List D) (P : D → Prop) (h : upThin ds P) : uRmul { nx := fun _ => P .non, rt := P } (startU ["self", "number", "length", "early", "ticks", "start", "offsets", "place", "tick", "offset"] ds) := by
  obtain ⟨r, n, rfl, rb, n1, n2, ln, h⟩ := h
  show uRmul _ [.val (.row r), .val (.int n), .no, .no, .no, .no, .no, .no, .no, .no]
  unfold uRmul
  have w := rb.c.wf
  have l1 := w.l1
  have lb := rb.lb
  have bb := rb.bb
  have el := rb.el
  have ol := rb.ol
  have l2 : 1 ≤ r.len * n := by
    have := Int.mul_le_mul l1 n1 (by omega) (by omega)
    omega
  walk_at "ewf"
  refine iii_i n1 n2 ?_
  walk_at "ewf"
  refine ⟨.inl ⟨by omega, by omega⟩, ?_⟩
  rw [decide_eq_false (show ¬ (20000 < r.len * n) by omega)]
  walk_at "ewf"
  refine lc_pick (l := r.early) 0 n (by omega) (fun i acc R hi ha hR => ?_) ?_
  · walk_at "ewf"
    refine ⟨by omega, ?_⟩
    walk_at "ewf"
    rw [Int.add_zero] at hR
    cases hc : decide ((i : Int) % n = 0) with
    | true => rw [hc] at hR; exact ⟨ha, hR⟩
    | false => rw [hc] at hR; exact hR
  walk_at "ewf"
  refine ⟨0, r.len * n, r.len, _, rfl, rgc_pos (by omega) (by omega) (by decide) (by decide) (by omega) (by omega), ?_⟩
  rw [thin_turns l1 n1]
  refine for_inv (fun i ρ => ∃ u5 u9, ρ = [.val (.row r), .val (.int n), .val (.int (r.len * n)), .val (.lst (iL (pick r.early 0 n))), .own (iL (tkk r i)), u5, .no, .no, .no, u9]) ⟨_, _, rfl⟩ ?_ ?_
  · rintro i d ρ hd ⟨u5, u9, rfl⟩
    have hi := lt_of_get hd
    rw [rngCD_length] at hi
    rw [rngCD_get hi] at hd
    cases hd
    have tl : (tkk r i).length ≤ 20000 := by
      rw [tkk_len]
      have h1 : ((i * r.offs.length : Nat) : Int) ≤ n * r.len := by
        rw [Int.natCast_mul]
        exact Int.mul_le_mul (by omega) ol (by omega) (by omega)
      rw [Int.mul_comm n] at h1
      omega
    walk_at "ewf"
    refine ⟨⟨_, rfl⟩, lc_int (fun _ => true) (fun t => .int ((i : Int) * r.len + t)) (by omega) (fun t acc R ht ha hR => ?_) ?_⟩
    · walk_at "ewf"
      rw [Int.zero_add]
      exact ⟨ha, hR⟩
    · rw [List.filter_eq_self.mpr fun _ _ => rfl]
      refine ⟨_, _, rfl, rfl, by rw [iL_len, List.length_map]; omega, ?_⟩
      walk_at "ewf"
      have e : iL (tkk r i) ++ r.offs.map (fun t => D.int ((i : Int) * r.len + t)) = iL (tkk r (i + 1)) := by
        show _ = iL (tkk r i ++ _)
        rw [← iL_app]; unfold iL; rw [List.map_map]; rfl
      rw [e]
      exact ⟨_, _, rfl⟩
  rintro ρ ⟨u5, u9, rfl⟩
  rw [rngCD_length]
  have tl : (tkk r n.toNat).length ≤ 20000 := by
    rw [tkk_len]
    have h1 : ((n.toNat * r.offs.length : Nat) : Int) ≤ n * r.len := by
      rw [Int.natCast_mul]
      exact Int.mul_le_mul (by omega) ol (by omega) (by omega)
    rw [Int.mul_comm n] at h1
    omega
  walk_at "ewf"
  refine lc_pick (l := tkk r n.toNat) r.early.length n (by omega) (fun i acc R hi ha hR => ?_) ?_
  · walk_at "ewf"
    refine ⟨by omega, ?_⟩
    walk_at "ewf"
    cases hc : decide (((i : Int) + r.early.length) % n = 0) with
    | true => rw [hc] at hR; exact ⟨ha, hR⟩
    | false => rw [hc] at hR; exact hR
  walk_at "ewf"
  have s := thin_set w n1
  exact ⟨_, _, _, _, _, rfl, .inl rfl, s.1, bb, ln, fun q qb hq => h q qb fun t => by rw [hq, s.2]; rfl⟩
end TkL


namespace TkL
open PySem PySem.Spec PySem.Calls PyProof.Rows L2 Tk
section
variable {g : UG} {ct : UT} {el : UE} {vs : List Nat} {ρ1 : Env} {P : D → Env → Prop}
def LCs (g : UG) (ct : UT) (el : UE) (vs : List Nat) (P : D → Env → Prop) (ρ1 : Env) : List D → List D → Prop
  | [], acc => P (.lst acc) ρ1
  | x :: xs, acc => LCT g ct el vs ρ1 x acc fun acc' => LCs g ct el vs P ρ1 xs acc'
theorem lcs_nil {acc : List D} : LCs g ct el vs P ρ1 [] acc = P (.lst acc) ρ1 := rfl
theorem lcs_cons {acc xs : List D} {x : D} : LCs g ct el vs P ρ1 (x :: xs) acc = LCT g ct el vs ρ1 x acc fun acc' => LCs g ct el vs P ρ1 xs acc' := rfl
theorem lc_unroll {xs : List D} (h : LCs g ct el vs P ρ1 xs []) : LC g ct el vs P xs ρ1 := by
  refine lc_inv (fun i acc => LCs g ct el vs P ρ1 (xs.drop i) acc) h (fun i x acc hx hI => ?_) fun acc hI => ?_
  · have hi := lt_of_get hx
    have e : xs.drop i = x :: xs.drop (i + 1) := by
      rw [List.drop_eq_getElem_cons hi]
      congr 1
      have := List.getElem?_eq_getElem hi
      rw [hx] at this; exact (Option.some.inj this).symm
    rw [e] at hI; exact hI
  · rw [List.drop_length] at hI; exact hI
end
section
variable {g : UG} {b : US} {P : UEnds} {ρ1 : Env}
def FORs (g : UG) (b : US) (P : UEnds) : List D → Env → Prop
  | [], ρ => P.nx ρ
  | x :: xs, ρ => g x ρ fun ρ2 => b { P with nx := FORs g b P xs, ct := FORs g b P xs, bk := P.nx } ρ2
theorem fors_nil {ρ : Env} : FORs g b P [] ρ = P.nx ρ := rfl
theorem fors_cons {ρ : Env} {x : D} {xs : List D} : FORs g b P (x :: xs) ρ = g x ρ fun ρ2 => b { P with nx := FORs g b P xs, ct := FORs g b P xs, bk := P.nx } ρ2 := rfl
theorem for_unroll {xs : List D} (h : FORs g b P xs ρ1) : FORU g b P xs ρ1 := by
  refine for_inv (fun i ρ => FORs g b P (xs.drop i) ρ) h (fun i x ρ hx hI => ?_) fun ρ hI => ?_
  · have hi := lt_of_get hx
    have e : xs.drop i = x :: xs.drop (i + 1) := by
      rw [List.drop_eq_getElem_cons hi]
      congr 1
      have := List.getElem?_eq_getElem hi
      rw [hx] at this; exact (Option.some.inj this).symm
    rw [e] at hI; exact hI
  · rw [List.drop_length] at hI; exact hI
end
theorem at_0 {x : D} {xs : List D} : atI (x :: xs) 0 = some x := by
  unfold atI ixN; simp
theorem at_1 {x y : D} {xs : List D} : atI (x :: y :: xs) 1 = some y := by
  unfold atI ixN
  rw [if_pos (by decide), if_pos (by simp; omega)]; rfl
theorem at_2 {x y z : D} {xs : List D} : atI (x :: y :: z :: xs) 2 = some z := by
  unfold atI ixN
  rw [if_pos (by decide), if_pos (by simp; omega)]; rfl
theorem at_3 {x y z u : D} {xs : List D} : atI (x :: y :: z :: u :: xs) 3 = some u := by
  unfold atI ixN
  rw [if_pos (by decide), if_pos (by simp; omega)]; rfl
theorem at_4 {x y z u v : D} {xs : List D} : atI (x :: y :: z :: u :: v :: xs) 4 = some v := by
  unfold atI ixN
  rw [if_pos (by decide), if_pos (by simp; omega)]; rfl
theorem ex_some {x : D} {P : D → Prop} : (∃ d, some x = some d ∧ P d) ↔ P x := ⟨fun ⟨d, e, h⟩ => by cases e; exact h, fun h => ⟨_, rfl, h⟩⟩
section
variable {N M k : Int} {r s : RV} {P : D → Prop}
theorem add_e (a : RD N M r) (b : RD N M s) (hN : 1 ≤ N ∧ N ≤ 20000) (hM : 0 ≤ M) (h : ∀ q, RD N M q → (∀ t, q.has t = (r.has t || s.has t)) → P (.row q)) : upAdd [.row r, .row s] P := add_d hN hM a b h
theorem and_e (a : RD N M r) (b : RD N M s) (hN : 1 ≤ N ∧ N ≤ 20000) (hM : 0 ≤ M) (h : ∀ q, RD N M q → (∀ t, q.has t = (r.has t && s.has t)) → P (.row q)) : upAnd [.row r, .row s] P := and_d hN hM a b h
theorem sub_e (a : RD N M r) (b : RD N M s) (hN : 1 ≤ N ∧ N ≤ 20000) (hM : 0 ≤ M) (h : ∀ q, RD N M q → (∀ t, q.has t = (r.has t && !s.has t)) → P (.row q)) : upSub [.row r, .row s] P := sub_d hN hM a b h
theorem shift_e (a : RD N M r) (hN : 1 ≤ N ∧ N ≤ 20000) (hM : 0 ≤ M) (k0 : 0 ≤ k) (kM : M + k ≤ 100000) (h : ∀ q, RD N (M + k) q → (∀ t, q.has t = r.has (t - k)) → P (.row q)) : upShift [.row r, .int k] P := shift_d hN.1 hM a k0 kM h
theorem eq_e {N' M' : Int} (a : RD N M r) (b : RD N' M' s) (h : ∀ t, r.has t = s.has t) (p : P (.bl true)) : upEq [.row r, .row s] P := eqT_b a.rb b.rb h p
end
theorem andNotIn {t : Int} {r s : RV} {K : D → Prop} (t0 : 0 ≤ t) (tm : t ≤ 1000000000000000000) (h : K (.bl (r.has t && !s.has t))) : qUpIn false upContains (.int t) (.row r) fun z1 => ∃ c, z1 = D.bl c ∧ if c = true then qUpIn true upContains (.int t) (.row s) (fun z => K z) else K (.bl false) := by
  refine (e_qUpIn).mpr (has_i t0 tm ⟨_, rfl, ?_⟩)
  cases hr : r.has t with
  | false => rw [hr] at h; exact h
  | true =>
    rw [hr] at h
    exact (e_qUpIn).mpr (has_i t0 tm h)
theorem andIn {t : Int} {r s : RV} {K : D → Prop} (t0 : 0 ≤ t) (tm : t ≤ 1000000000000000000) (h : K (.bl (r.has t && s.has t))) : qUpIn false upContains (.int t) (.row r) fun z1 => ∃ c, z1 = D.bl c ∧ if c = true then qUpIn false upContains (.int t) (.row s) (fun z => K z) else K (.bl false) := by
  refine (e_qUpIn).mpr (has_i t0 tm ⟨_, rfl, ?_⟩)
  cases hr : r.has t with
  | false => rw [hr] at h; exact h
  | true =>
    rw [hr] at h
    exact (e_qUpIn).mpr (has_i t0 tm h)
theorem addS_j {i j : Str} {P : D → Prop} (h0 : i.length + j.length ≤ sizeLine) (h : P (.str (i ++ j))) : qAddS (.str i) (.str j) P := ⟨h0, h⟩
theorem parse_k {z : Str} {ns : List Int} {b : Nat} {P : D → Prop} (h1 : z.length ≤ 100000) (h2 : z ≠ "never") (h3 : runP 0 (Txt.split z " ") ([], none) = some (ns, some b)) (h4 : b ≠ ns.length) (h : ∀ q, RB q → (∀ t, q.has t = planHas (ns.getD 0 0) ((ns.drop 1).take (b - 1)) (ns.drop b) t) → P (.row q)) : upParse [.cls, .str z] P :=
  ⟨z, _, rfl, h1, by unfold parseSet; rw [if_neg h2, h3]; exact if_neg h4, fun q qb hq => h q qb hq⟩
def planD (s : Int) (fs ls : List Int) : D := .tup [.int s, .tup (iL fs), .tup (iL ls)]
theorem plan_i {m : Int} {P : D → Prop} (m1 : 1 ≤ m) (m2 : m ≤ 100) (h : ∀ s fs ls, PlanOk m s fs ls → P (planD s fs ls)) : upPlan [.src, .int m] P := ⟨m, rfl, m1, m2, h⟩
theorem rng2 : rngD 0 (2 : Int).toNat = [.int 0, .int 1] := rfl
theorem rng3 : rngD 0 (3 : Int).toNat = [.int 0, .int 1, .int 2] := rfl
theorem rng4 : rngD 0 (4 : Int).toNat = [.int 0, .int 1, .int 2, .int 3] := rfl
theorem rng5 : rngD 0 (5 : Int).toNat = [.int 0, .int 1, .int 2, .int 3, .int 4] := rfl
theorem plan_rd {m s : Int} {fs ls : List Int} (po : PlanOk m s fs ls) {r : RV} (rb : RB r) (hr : ∀ t, r.has t = (planV s fs ls).has t) (ok : VOk (planV s fs ls)) : RD ls.sum (s + fs.sum) r := by
  refine RD.of rb ok.l1 ok.b0 fun t ht => ?_
  rw [hr, hr, ok.has, ok.has]
  exact qhas_per ok.l1 t ht
theorem RD.up {N M N' M' : Int} {r : RV} (h : RD N M r) (hN : N ∣ N') (hM : M ≤ M') : RD N' M' r := ⟨h.rb, Int.dvd_trans h.dv hN, Int.le_trans h.bm hM⟩
theorem plan_ix0 {s : Int} {fs ls : List Int} {P : D → Prop} : qIxT (planD s fs ls) (.int 0) P ↔ P (.int s) := ⟨fun ⟨d, e, h⟩ => by cases e; exact h, fun h => ⟨_, rfl, h⟩⟩
theorem plan_ix1 {s : Int} {fs ls : List Int} {P : D → Prop} : qIxT (planD s fs ls) (.int 1) P ↔ P (.tup (iL fs)) := ⟨fun ⟨d, e, h⟩ => by cases e; exact h, fun h => ⟨_, rfl, h⟩⟩
theorem plan_ix2 {s : Int} {fs ls : List Int} {P : D → Prop} : qIxT (planD s fs ls) (.int 2) P ↔ P (.tup (iL ls)) := ⟨fun ⟨d, e, h⟩ => by cases e; exact h, fun h => ⟨_, rfl, h⟩⟩
theorem rowp_i {m s : Int} {fs ls : List Int} {P : D → Prop} (po : PlanOk m s fs ls) (hm : m ≤ 12) (h : ∀ r, PlU (planV s fs ls) r → P (.row r)) : upLawRow [planD s fs ls] P := row_p po hm h
theorem valp_i {m s : Int} {fs ls : List Int} {P : D → Prop} (po : PlanOk m s fs ls) (hm : m ≤ 12) (h : P (planV s fs ls).d) : upValue [planD s fs ls] P := value_p po hm h
end TkL


local macro_rules | `(tactic| walk_at "ewo") => `(tactic| (first | (simp only [TkL.e_fB, TkL.e_fL, TkL.e_fE, TkL.e_fO, TkL.e_never, TkL.e_enum, TkL.e_rng3, TkL.e_ext, TkL.e_augI, TkL.e_bor, TkL.e_retO, TkL.e_retNO, TkL.e_par_ovv, TkL.lcs_nil, TkL.lcs_cons, TkL.fors_nil, TkL.fors_cons, List.nil_append, List.cons_append, Nat.reduceLT, TkL.at_0, TkL.at_1, TkL.at_2, TkL.at_3, TkL.at_4, TkL.ex_some, TkL.plan_ix0, TkL.plan_ix1, TkL.plan_ix2]) | walk_at "ew"))
local macro_rules | `(tactic| walk_at "ewu") => `(tactic| repeat (first | (simp only [TkL.e_fB, TkL.e_fL, TkL.e_fE, TkL.e_fO, TkL.e_never, TkL.e_enum, TkL.e_rng3, TkL.e_ext, TkL.e_augI, TkL.e_bor, TkL.e_retO, TkL.e_retNO, TkL.e_par_ovv, TkL.lcs_nil, TkL.lcs_cons, TkL.fors_nil, TkL.fors_cons, List.nil_append, List.cons_append, Nat.reduceLT, TkL.at_0, TkL.at_1, TkL.at_2, TkL.at_3, TkL.at_4, TkL.ex_some, TkL.plan_ix0, TkL.plan_ix1, TkL.plan_ix2]) | walk_at "ew"))
local macro_rules | `(tactic| walk_at "ews") => `(tactic| repeat (first | (with_reducible refine TkL.add_e (by assumption) (by assumption) (by assumption) (by omega) fun q dq hq => ?_) | (with_reducible refine TkL.and_e (by assumption) (by assumption) (by assumption) (by omega) fun q dq hq => ?_) | (with_reducible refine TkL.sub_e (by assumption) (by assumption) (by assumption) (by omega) fun q dq hq => ?_) | (with_reducible refine TkL.shift_e (by assumption) (by assumption) (by omega) (by omega) (by omega) fun q dq hq => ?_) | (with_reducible refine TkL.eq_e (by assumption) (by assumption) (by intro t; simp only [*] <;> grind) ?_) | (simp only [TkL.e_fB, TkL.e_fL, TkL.e_fE, TkL.e_fO, TkL.e_never, TkL.e_enum, TkL.e_rng3, TkL.e_ext, TkL.e_augI, TkL.e_bor, TkL.e_retO, TkL.e_retNO, TkL.e_par_ovv, TkL.lcs_nil, TkL.lcs_cons, TkL.fors_nil, TkL.fors_cons, List.nil_append, List.cons_append, Nat.reduceLT, TkL.at_0, TkL.at_1, TkL.at_2, TkL.at_3, TkL.at_4, TkL.ex_some, TkL.plan_ix0, TkL.plan_ix1, TkL.plan_ix2]) | walk_at "ew"))
namespace TkL
open PySem PySem.Spec PySem.Calls PyProof.Rows L2 Tk
end TkL


namespace TkL
open PySem PySem.Spec PySem.Calls PyProof.Rows L2 Tk
theorem cut0 {A R : Prop} (h : R → A) (r : R) : A := h r
theorem cut1 {A : Prop} {R : Sl → Prop} (h : (∀ x, R x) → A) (r : ∀ x, R x) : A := h r
theorem cut2 {A : Prop} {R : Sl → Sl → Prop} (h : (∀ x y, R x y) → A) (r : ∀ x y, R x y) : A := h r
theorem cut3 {A : Prop} {R : Sl → Sl → Sl → Prop} (h : (∀ x y z, R x y z) → A) (r : ∀ x y z, R x y z) : A := h r
theorem sep_str {l : List Int} : List.map (fun t => D.str (Str.ofString " " ++ numS t)) (List.filter (fun _ => true) l) = strL (sepN l) := by
  rw [filter_true]
  unfold strL sepN
  rw [List.map_map]; rfl
theorem sep_sum : ∀ {l : List Int}, (∀ x ∈ l, 0 ≤ x ∧ x < 1000000) → ((sepN l).map (·.length)).sum ≤ 7 * l.length
  | [], _ => by simp [sepN]
  | a :: l, h => by
    have ih := sep_sum (l := l) fun x hx => h x (by simp [hx])
    have ha := h a (by simp)
    have := (numS_len ha.1 ha.2).2
    unfold sepN at ih ⊢
    rw [List.map_cons, List.map_cons, List.sum_cons, sL, List.length_cons]
    have e : (" " : Str).length = 1 := rfl
    omega
theorem join_sep {l : List Int} {P : D → Prop} (h : ∀ x ∈ l, 0 ≤ x ∧ x < 1000000) (hl : l.length ≤ 100000) (p : P (.str (catS (sepN l)))) : gJoin (Str.ofString "") [.lst (List.map (fun t => D.str (Str.ofString " " ++ numS t)) (List.filter (fun _ => true) l))] P := by
  rw [sep_str]
  have := sep_sum h
  refine gJoin_s (by
    have e : (Str.ofString "").length = 0 := rfl
    rw [e]; omega) ?_
  have e : Txt.join (Str.ofString "") (sepN l) = catS (sepN l) := join_nil _
  rw [e]; exact p
section
variable {r q : RV} {v u : VB}
theorem PlU.inj (a : PlU v r) (b : PlU u q) (h : rowText r = rowText q) : r = q := by
  have key : ∀ {v : VB} {r : RV}, PlU v r → ∃ S, parseSet (rowText r) = some S ∧ ∀ t, S t = r.has t := fun {v r} pl => by
    have ll := pl.ll
    have bb := pl.bb
    obtain ⟨S, h1, h2⟩ := parse_text pl.rb (fun ho => by
      obtain ⟨o, l, eo⟩ : ∃ o l, r.offs = o :: l := by
        cases h : r.offs with
        | nil => exact absurd h ho
        | cons o l => exact ⟨o, l, rfl⟩
      have := (pl.rb.c.wf.ow o (by rw [eo]; simp)).2
      rw [eo]
      show r.beg + o ≤ _
      omega) (fun z => absurd z pl.ho)
    exact ⟨S, h1, h2⟩
  obtain ⟨S, s1, s2⟩ := key a
  obtain ⟨T, t1, t2⟩ := key b
  rw [h, t1] at s1
  cases s1
  exact a.rb.ext b.rb fun t => (s2 t).symm.trans (t2 t)
theorem PlU.eqtext (a : PlU v r) (b : PlU u q) : decide (rowText r = rowText q) = decide (r = q) := by
  rw [Bool.eq_iff_iff, decide_eq_true_iff, decide_eq_true_iff]
  exact ⟨fun h => a.inj b h, fun h => by rw [h]⟩
theorem plan_nth {m s : Int} {fs ls : List Int} (po : PlanOk m s fs ls) {r : RV} (pl : PlU (planV s fs ls) r) : ∀ k : Nat, r.nth k ≤ 59 + 119 * k
  | 0 => by
    have w := pl.rb.c.wf
    have hs : r.has s = true := by
      rw [pl.hr, planV_has po.s0 (fun x hx => (po.fr x hx).1) (fun x hx => (po.lr x hx).1) po.ln]
      exact plan_start (fun x hx => (po.fr x hx).1) po.ln
    have c := count_lt w (t := s - 1) (by omega) hs
    have c0 := count_nn w (s - 1)
    have := (nth_in w (n := 0) (t := s) (Int.le_refl _) (by omega)).2.2.2.2
    have := po.s1
    show r.nth 0 ≤ _
    omega
  | k + 1 => by
    have w := pl.rb.c.wf
    have ih := plan_nth po pl k
    have z := plan_nth po pl 0
    have ok := nth_ok w (n := k) (by omega) (.inr pl.ho)
    have nn := nth_nn w (n := k) (by omega) (.inr pl.ho)
    have g := pl.pr.gap (r.nth k) nn
    rw [ok.2] at g
    have e : ((k + 1 : Nat) : Int) = (k : Int) + 1 := by omega
    rw [e]
    have z' : r.nth 0 ≤ 59 + 119 * ((0 : Nat) : Int) := z
    omega
theorem nths_fin {r : RV} (rb : RB r) (ho : r.offs ≠ []) {n : Nat} (n0 : 1 ≤ n) (n1 : n ≤ 1000) (hb : ∀ k : Nat, k < n → r.nth k < 100000) : FinT (nths r n) := by
  have w := rb.c.wf
  refine ⟨fun z => ?_, ?_, fun x hx => ?_, by rw [nths_len]; exact n1⟩
  · have := congrArg List.length z
    rw [nths_len, List.length_nil] at this
    omega
  · unfold nths
    rw [List.pairwise_map]
    exact List.pairwise_lt_range.imp fun {a b} h => nth_lt w ho (by omega) (by omega)
  · obtain ⟨k, hk, rfl⟩ := nths_mem hx
    exact ⟨nth_nn w (by omega) (.inr ho), hb k hk⟩
theorem nths_get {r : RV} {n k : Nat} (h : k < n) : (nths r n).getD k 0 = r.nth k := by
  unfold nths
  rw [List.getD_eq_getElem?_getD, List.getElem?_map, List.getElem?_range h]; rfl
theorem finR_nth {T : List Int} {k : Nat} (h : k < T.length) : (finR T).nth k = T.getD k 0 := by
  unfold RV.nth finR
  simp only
  rw [if_pos (by omega), Int.toNat_natCast]
theorem nths_lastD {r : RV} {n : Nat} (h : 1 ≤ n) : (nths r n).getLastD 0 = r.nth (n - 1 : Nat) := by
  obtain ⟨m, rfl⟩ : ∃ m, n = m + 1 := ⟨n - 1, by omega⟩
  rw [nths_last]; rfl
end
end TkL


namespace TkL
open PySem PySem.Spec PySem.Calls PyProof.Rows L2 Tk
theorem per_at {S : Int → Bool} {b N t : Int} (p : Per S b N) (hN : 1 ≤ N) (ht : b ≤ t) : S (b + (t - b) % N) = S t := by
  have hq : N * ((t - b) / N) + (t - b) % N = t - b := Int.mul_ediv_add_emod _ _
  have s0 : 0 ≤ (t - b) % N := Int.emod_nonneg _ (by omega)
  have q0 : 0 ≤ (t - b) / N := Int.ediv_nonneg (by omega) (by omega)
  have := p.mul (by omega) q0 (b + (t - b) % N) (by omega)
  rw [this]
  congr 1
  omega
section
variable {v : VB} {r : RV} {k n : Int}
def movV (v : VB) (k : Int) : VB := ⟨v.ts.map (· + k), v.b + k, v.l⟩
theorem movV_ok (ok : VOk v) (k0 : 0 ≤ k) (kb : v.b + k ≤ 100000) : VOk (movV v k) := by
  have b0 := ok.b0
  refine ⟨?_, fun x hx => ?_, by show 0 ≤ v.b + k; omega, ok.l1, kb, ok.lb⟩
  · show (v.ts.map (· + k)).Pairwise (· < ·)
    rw [List.pairwise_map]
    exact ok.s.imp fun {a b} h => by omega
  · obtain ⟨y, hy, rfl⟩ := List.mem_map.mp hx
    have := ok.r y hy
    show 0 ≤ y + k ∧ y + k < v.b + k + v.l
    omega
theorem movV_has (t : Int) : (movV v k).has t = v.has (t - k) := by
  unfold VB.has VB.at movV
  simp only
  have e1 : (t - (v.b + k)) = (t - k - v.b) := by omega
  rw [Bool.eq_iff_iff, decide_eq_true_iff, decide_eq_true_iff, List.mem_map]
  by_cases c : t < v.b + k
  · rw [if_pos c, if_pos (by omega)]
    constructor
    · rintro ⟨y, hy, e⟩
      have : t - k = y := by omega
      rw [this]; exact hy
    · intro h; exact ⟨_, h, by omega⟩
  · rw [if_neg c, if_neg (by omega), e1]
    constructor
    · rintro ⟨y, hy, e⟩
      have : v.b + (t - k - v.b) % v.l = y := by omega
      rw [this]; exact hy
    · intro h; exact ⟨_, h, by omega⟩
theorem thinS_per (rb : RB r) {b l : Int} (hb : r.beg ≤ b) (dv : r.len ∣ l) (l1 : 1 ≤ l) (n1 : 1 ≤ n) : Per (thinS r n) b (l * n) := fun t ht => by
  obtain ⟨k, rfl⟩ := dv
  have w := rb.c.wf
  have e1 := w.l1
  have k0 : 0 ≤ k := by
    rcases Int.lt_or_le k 0 with z | z
    · have : r.len * k ≤ r.len * 0 := Int.mul_le_mul_of_nonneg_left (by omega) (by omega)
      omega
    · exact z
  have kn : 0 ≤ k * n := Int.mul_nonneg k0 (by omega)
  have e : r.len * k * n = r.len * (k * n) := Int.mul_assoc ..
  have p : r.has t = r.has (t + r.len * (k * n)) := (qhas_per (e := r.early) (b := r.beg) (o := r.offs) e1).mul (by omega) kn t (by omega)
  unfold thinS
  rw [e, ← p, count_shift w (by omega) kn]
  have e2 : r.count t + k * n * (r.offs.length : Int) - 1 = r.count t - 1 + n * (k * (r.offs.length : Int)) := by
    have : k * n * (r.offs.length : Int) = n * (k * (r.offs.length : Int)) := by
      rw [Int.mul_comm k n, Int.mul_assoc]
    omega
  rw [e2, Int.add_mul_emod_self_left]
def thinV (r : RV) (b l n : Int) : VB := ⟨pick (tix r.has (b + l * n).toNat) 0 n, b, l * n⟩
theorem tix_sorted {f : Int → Bool} {N : Nat} : (tix f N).Pairwise (· < ·) := by
  unfold tix
  refine List.Pairwise.filter _ ?_
  rw [List.pairwise_map]
  exact List.pairwise_lt_range.imp fun {a b} h => by omega
theorem tix_mem {f : Int → Bool} {N : Nat} {x : Int} : x ∈ tix f N ↔ (0 ≤ x ∧ x < N) ∧ f x = true := by
  unfold tix
  rw [List.mem_filter, List.mem_map]
  constructor
  · rintro ⟨⟨k, hk, rfl⟩, h⟩
    have := List.mem_range.mp hk
    exact ⟨⟨by omega, by omega⟩, h⟩
  · rintro ⟨⟨h0, h1⟩, h⟩
    exact ⟨⟨x.toNat, List.mem_range.mpr (by omega), by omega⟩, h⟩
theorem thin_pick (rb : RB r) {N : Nat} {x : Int} : x ∈ pick (tix r.has N) 0 n ↔ (0 ≤ x ∧ x < N) ∧ thinS r n x = true := by
  have w := rb.c.wf
  rw [mem_pick]
  unfold thinS
  constructor
  · rintro ⟨i, hi, h2, rfl⟩
    have g := tix_get w N i hi
    rw [g.1, g.2.1]
    refine ⟨⟨g.2.2.1, g.2.2.2⟩, ?_⟩
    have e : (i : Int) + 1 - 1 = (i : Int) + 0 := by omega
    rw [e, h2]; rfl
  · rintro ⟨h1, h2⟩
    rw [Bool.and_eq_true, decide_eq_true_iff] at h2
    obtain ⟨i, hi, rfl⟩ := List.mem_iff_getElem.mp (tix_mem.mpr ⟨h1, h2.1⟩)
    have g := tix_get w N i hi
    have e0 : (tix r.has N).getD i 0 = (tix r.has N)[i] := by rw [List.getD_eq_getElem?_getD, List.getElem?_eq_getElem hi]; rfl
    rw [e0] at g
    rw [g.2.1] at h2
    refine ⟨i, hi, ?_, e0⟩
    have e : (i : Int) + 1 - 1 = (i : Int) + 0 := by omega
    rw [e] at h2; exact h2.2
theorem thinV_ok (rb : RB r) {b l : Int} (b0 : 0 ≤ b) (bb : b ≤ 100000) (l1 : 1 ≤ l) (n1 : 1 ≤ n) (lb : l * n ≤ 400000) : VOk (thinV r b l n) := by
  have ln : 1 ≤ l * n := by
    have := Int.mul_le_mul l1 n1 (by omega) (by omega)
    omega
  refine ⟨pick_sorted tix_sorted, fun x hx => ?_, b0, ln, bb, lb⟩
  have := ((thin_pick rb).mp hx).1
  show 0 ≤ x ∧ x < b + l * n
  omega
theorem thinV_has (rb : RB r) {b l : Int} (hb : r.beg ≤ b) (dv : r.len ∣ l) (b0 : 0 ≤ b) (l1 : 1 ≤ l) (n1 : 1 ≤ n) (t : Int) : (thinV r b l n).has t = thinS r n t := by
  have ln : 1 ≤ l * n := by
    have := Int.mul_le_mul l1 n1 (by omega) (by omega)
    omega
  have p := thinS_per rb hb dv l1 n1
  have neg : ∀ t, t < 0 → thinS r n t = false := fun t h => by
    unfold thinS RV.has
    rw [qhas_neg rb.c.wf h]; rfl
  unfold VB.has VB.at thinV
  simp only
  rw [Bool.eq_iff_iff, decide_eq_true_iff, thin_pick rb]
  by_cases c : t < b
  · rw [if_pos c]
    constructor
    · exact fun h => h.2
    · intro h
      refine ⟨?_, h⟩
      rcases Int.lt_or_le t 0 with z | z
      · rw [neg t z] at h; cases h
      · omega
  · have s0 : 0 ≤ (t - b) % (l * n) := Int.emod_nonneg _ (by omega)
    have s1 : (t - b) % (l * n) < l * n := Int.emod_lt_of_pos _ (by omega)
    rw [if_neg c, per_at p ln (by omega)]
    exact ⟨fun h => h.2, fun h => ⟨by omega, h⟩⟩
end
def tixV (f : Int → Bool) (B N : Int) : VB := ⟨tix f (B + N).toNat, B, N⟩
section
variable {f : Int → Bool} {B N : Int}
theorem tixV_ok (B0 : 0 ≤ B) (BB : B ≤ 100000) (N1 : 1 ≤ N) (NN : N ≤ 400000) : VOk (tixV f B N) := by
  refine ⟨tix_sorted, fun x hx => ?_, B0, N1, BB, NN⟩
  have := (tix_mem.mp hx).1
  show 0 ≤ x ∧ x < B + N
  omega
theorem tixV_has (B0 : 0 ≤ B) (N1 : 1 ≤ N) (neg : ∀ t, t < 0 → f t = false) (p : Per f B N) (t : Int) : (tixV f B N).has t = f t := by
  unfold VB.has VB.at tixV
  simp only
  rw [Bool.eq_iff_iff, decide_eq_true_iff, tix_mem]
  by_cases c : t < B
  · rw [if_pos c]
    constructor
    · exact fun h => h.2
    · intro h
      refine ⟨?_, h⟩
      rcases Int.lt_or_le t 0 with z | z
      · rw [neg t z] at h; cases h
      · omega
  · have s0 : 0 ≤ (t - B) % N := Int.emod_nonneg _ (by omega)
    have s1 : (t - B) % N < N := Int.emod_lt_of_pos _ (by omega)
    rw [if_neg c, per_at p N1 (by omega)]
    exact ⟨fun h => h.2, fun h => ⟨by omega, h⟩⟩
end
theorem VOk.per {v : VB} (ok : VOk v) : Per v.has v.b v.l := fun t ht => by
  rw [ok.has, ok.has]; exact qhas_per ok.l1 t ht
theorem VOk.per_up {v : VB} (ok : VOk v) {B N : Int} (hB : v.b ≤ B) (hN : v.l ∣ N) (N0 : 0 ≤ N) : Per v.has B N := by
  obtain ⟨k, rfl⟩ := hN
  have l1 := ok.l1
  have k0 : 0 ≤ k := by
    rcases Int.lt_or_le k 0 with z | z
    · have : v.l * k ≤ v.l * (-1) := Int.mul_le_mul_of_nonneg_left (by omega) (by omega)
      omega
    · exact z
  exact (ok.per.up hB).mul (by omega) k0
theorem fin_thin {T : List Int} (h : FinT T) {n : Int} (n1 : 1 ≤ n) (t : Int) : thinS (finR T) n t = decide (t ∈ pick T 0 n) := by
  have s := (thin_set h.rb.c.wf n1)
  rw [← s.2 t]
  have e : ∀ j, tkk (finR T) j = [] := fun j => by
    apply List.eq_nil_of_length_eq_zero
    rw [tkk_len]
    show j * 0 = 0
    omega
  rw [e]
  have e2 : pick [] ((finR T).early.length : Int) n = [] := rfl
  rw [e2]
  show qhas (pick T 0 n) (finR T).beg _ [] t = _
  rcases Int.lt_or_le t (finR T).beg with q | q
  · rw [qhas_lo q]
  · rw [qhas_hi q]
    refine (decide_eq_false (fun z => by cases z)).trans (decide_eq_false fun z => ?_).symm
    have := (s.1.er t z).2
    omega
end TkL


namespace TkL
open PySem PySem.Spec PySem.Calls PyProof.Rows L2 Tk
def opW (w : Str) (a b : Bool) : Bool := if w = "+" then a || b else if w = "&" then a && b else a && !b
def upBoth : UP := fun ds P => ∃ v u w, ds = [VB.d v, VB.d u, .str w] ∧ VOk v ∧ VOk u ∧ v.l * u.l ≤ 400000 ∧ (w = "+" ∨ w = "&" ∨ w = "-") ∧ ∀ x, VOk x → x.b = max v.b u.b → v.l ∣ x.l → u.l ∣ x.l → x.l ≤ v.l * u.l → (∀ t, x.has t = opW w (v.has t) (u.has t)) → P (VB.d x)
theorem both_i {v u : VB} {w : Str} {P : D → Prop} (okv : VOk v) (oku : VOk u) (lN : v.l * u.l ≤ 400000) (hw : w = "+" ∨ w = "&" ∨ w = "-") (h : ∀ x, VOk x → x.b = max v.b u.b → v.l ∣ x.l → u.l ∣ x.l → x.l ≤ v.l * u.l → (∀ t, x.has t = opW w (v.has t) (u.has t)) → P (VB.d x)) : upBoth [v.d, u.d, .str w] P := ⟨v, u, w, rfl, okv, oku, lN, hw, h⟩
theorem cutQ {A : Prop} {S : RV → Prop} {R : RV → Prop} (h : (∀ q, S q → R q) → A) (r : ∀ q, S q → R q) : A := h r
theorem plan_row_i {m s : Int} {fs ls : List Int} (po : PlanOk m s fs ls) (hm : m ≤ 12) : ∃ r, PlU (planV s fs ls) r := by
  have b := plan_bds po hm
  obtain ⟨r, rb, hr⟩ := b.2.2.2.2.2.row (by show ls.sum ≤ 20000; omega)
  exact ⟨r, plan_pl po hm rb fun t => by rw [hr, planV_has po.s0 (fun x hx => (po.fr x hx).1) (fun x hx => (po.lr x hx).1) po.ln]⟩
end TkL



namespace TkL
open PySem PySem.Spec PySem.Calls PyProof.Rows L2 Tk
section
variable (K : PySem.W.Frag) (C : Addr)
def tULboth : TS := (tSeq (tPar 3 4 (tCons (tOp (rIxT K) (tVar 0) (tC (.int 2))) (tCons (tCB kMax2 (tCons (tOp (rIxT K) (tVar 0) (tC (.int 1))) (tCons (tOp (rIxT K) (tVar 1) (tC (.int 1))) tNil))) tNil)))
    (tSeq (tWhile (tTest (tOp (rI0 fun i j => V.bl (decide (j < i))) (tOp (rI (fun _ j => 0 < j) fun i j => V.int (i % j)) (tVar 3) (tOp (rIxT K) (tVar 1) (tC (.int 2)))) (tC (.int 0)))) (tAsg (tOp (rI0 fun i j => V.int (i + j)) (tVar 3) (tOp (rIxT K) (tVar 0) (tC (.int 2)))) (gName 3)))
    (tSeq (tPar 5 6 (tCons (tLc (iList K (tLst (tCons (tPer 0) (tCons (tPer 1) tNil)))) (gName 10) tYes (tCB (kDict K) (tCons (tLc (iList K (tOp (rIxT K) (tVar 10) (tC (.int 0)))) (gName 7) tYes (tTup (tCons (tPer 7) (tCons (tC (.bl true)) tNil))) [7]) tNil)) [10]) (tCons (tLst tNil) tNil)))
    (tSeq (tFor (iRng1 (tCons (tOp (rI0 fun i j => V.int (i + j)) (tVar 4) (tVar 3)) tNil)) (gName 7) (tSeq (tAsg (tLst (tCons (tDIn (tDef (spU K C upAt) E0 (tCons (tPer 0) (tCons (tPer 7) tNil))) (tOp (rIxL K) (tVar 5) (tC (.int 0)))) (tCons (tDIn (tDef (spU K C upAt) E0 (tCons (tPer 1) (tCons (tPer 7) tNil))) (tOp (rIxL K) (tVar 5) (tC (.int 1)))) tNil))) (gName 8))
    (tSeq (tAsg (tOrV (tOp rEq (tVar 2) (tC (.str "+"))) (tAndV (tOp (rIxL K) (tVar 8) (tC (.int 0))) (tOp rEq (tOp (rIxL K) (tVar 8) (tC (.int 1))) (tOp rEq (tVar 2) (tC (.str "&")))))) (gName 9))
    (tIfS (tAnd (tB (tVar 9)) (tOr (tB (tOp (rIxL K) (tVar 8) (tC (.int 0)))) (tB (tOp (rIxL K) (tVar 8) (tC (.int 1)))))) (tDrop (tBM K "list" rAppend (tVar 6) (tCons (tPer 7) tNil))) tNext))))
    (tRet (tTup (tCons (tPer 6) (tCons (tPer 4) (tCons (tPer 3) tNil)))))))))
end
def uLboth : US := (uSeq (uPar 3 4 (uCons (uOp qIxT (uVar 0) (uC (.int 2))) (uCons (uCB gMax2 (uCons (uOp qIxT (uVar 0) (uC (.int 1))) (uCons (uOp qIxT (uVar 1) (uC (.int 1))) uNil))) uNil)))
    (uSeq (uWhile (uB (uOp (qI0 fun i j => D.bl (decide (j < i))) (uOp (qI (fun _ j => 0 < j) fun i j => D.int (i % j)) (uVar 3) (uOp qIxT (uVar 1) (uC (.int 2)))) (uC (.int 0)))) (uAsg (uOp (qI0 fun i j => D.int (i + j)) (uVar 3) (uOp qIxT (uVar 0) (uC (.int 2)))) (uName 3)))
    (uSeq (uPar_vo 5 6 (uLc (uIL (uLst (uCons (uPer 0) (uCons (uPer 1) uNil)))) (uName 10) uYes (uCB gDict (uCons (uLc (uIL (uOp qIxT (uVar 10) (uC (.int 0)))) (uName 7) uYes (uTup (uCons (uPer 7) (uCons (uC (.bl true)) uNil))) [7]) uNil)) [10]))
    (uSeq (uFor (uIRng1 (uCons (uOp (qI0 fun i j => D.int (i + j)) (uVar 4) (uVar 3)) uNil)) (uName 7) (uSeq (uAsg (uLst (uCons (uMrk false (uDef upAt (uCons (uPer 0) (uCons (uPer 7) uNil))) (uOp qIxL (uVar 5) (uC (.int 0)))) (uCons (uMrk false (uDef upAt (uCons (uPer 1) (uCons (uPer 7) uNil))) (uOp qIxL (uVar 5) (uC (.int 1)))) uNil))) (uName 8))
    (uSeq (uAsg (uOrV (uOp qEq (uVar 2) (uC (.str "+"))) (uAndV (uOp qIxL (uVar 8) (uC (.int 0))) (uOp qEq (uOp qIxL (uVar 8) (uC (.int 1))) (uOp qEq (uVar 2) (uC (.str "&")))))) (uName 9))
    (uIfS (uAnd (uB (uVar 9)) (uOr (uB (uOp qIxL (uVar 8) (uC (.int 0)))) (uB (uOp qIxL (uVar 8) (uC (.int 1)))))) (uApp 6 (uPer 7)) uNext))))
    (uRet (uTup (uCons (uPer 6) (uCons (uPer 4) (uCons (uPer 3) uNil)))))))))
theorem simLboth {K : PySem.W.Frag} {C : Addr} (B : Bs) (hK : B.K = K) (hC : B.C = C) : SimS B (tULboth K C) uLboth := by
  subst hK hC
  exact (sS_seq (sS_par (sP_cons (sE_op s2_ixT sW_var (SimE.w sE_int)) (sP_cons (sE_cb sk_max2 (sA_cons (SimE.w (sE_op s2_ixT sW_var (SimE.w sE_int))) (sA_cons (SimE.w (sE_op s2_ixT sW_var (SimE.w sE_int))) sA_nil))) sP_nil)))
    (sS_seq (sS_while (sT_test (SimE.w (sE_op (s2_I0 (fun _ _ _ => .bl)) (SimE.w (sE_op (s2_I (fun _ _ _ => .int)) sW_var (SimE.w (sE_op s2_ixT sW_var (SimE.w sE_int))))) (SimE.w sE_int)))) (sS_asg (sE_op (s2_I0 (fun _ _ _ => .int)) sW_var (SimE.w (sE_op s2_ixT sW_var (SimE.w sE_int)))) sG_name))
    (sS_seq (sS_par_vo (SimN.e (sN_lc (sI_list (SimN.e (sN_lst (sP_cons sE_per (sP_cons sE_per sP_nil))))) ktw_name sT_yes (sE_cb sk_dict (sA_cons (SimE.w (SimN.e (sN_lc (sI_list (sE_op s2_ixT sW_var (SimE.w sE_int))) ktw_name sT_yes (sE_tup (sP_cons sE_per (sP_cons sE_bl sP_nil)))))) sA_nil)))))
    (sS_seq (sS_for (sI_rng1 (sA_cons (SimE.w (sE_op (s2_I0 (fun _ _ _ => .int)) sW_var sW_var)) sA_nil)) sG_name (sS_seq (sS_asg (SimN.e (sN_lst (sP_cons (sE_din (SimE.w (sE_def (sP_cons sE_per (sP_cons sE_per sP_nil)))) (SimE.w (sE_op s2_ixL sW_var (SimE.w sE_int)))) (sP_cons (sE_din (SimE.w (sE_def (sP_cons sE_per (sP_cons sE_per sP_nil)))) (SimE.w (sE_op s2_ixL sW_var (SimE.w sE_int)))) sP_nil)))) sG_name)
    (sS_seq (sS_asg (sE_orV (SimE.w (sE_op s2_Eq sW_var (SimE.w sE_str))) (sE_andV (SimE.w (sE_op s2_ixL sW_var (SimE.w sE_int))) (sE_op s2_Eq (SimE.w (sE_op s2_ixL sW_var (SimE.w sE_int))) (SimE.w (sE_op s2_Eq sW_var (SimE.w sE_str)))))) sG_name)
    (sS_if (sT_and (sT_B sW_var) (sT_or (sT_B (SimE.w (sE_op s2_ixL sW_var (SimE.w sE_int)))) (sT_B (SimE.w (sE_op s2_ixL sW_var (SimE.w sE_int)))))) (sS_app sE_per) sS_next))))
    (sS_ret (sE_tup (sP_cons sE_per (sP_cons sE_per (sP_cons sE_per sP_nil)))))))))
end TkL


namespace TkL
open PySem PySem.Spec PySem.Calls PyProof.Rows L2 Tk
theorem rdUboth (ds : List D) (P : D → Prop) (h : upBoth ds P) : uLboth { nx := fun _ => P .non, rt := P } (startU ["_law_one", "_law_other", "_law_word", "_law_length", "_law_begin", "_law_marks", "_law_found", "_law_tick", "_law_has", "_law_kept", "_law_value_here"] ds) := by
  obtain ⟨v, u, w, rfl, okv, oku, lN, hw, h⟩ := h
  have tlv := okv.tl
  have tlu := oku.tl
  have vl1 := okv.l1
  have ul1 := oku.l1
  have vb0 := okv.b0
  have ub0 := oku.b0
  have vbb := okv.bb
  have ubb := oku.bb
  show uLboth _ [.val v.d, .val u.d, .val (.str w), .no, .no, .no, .no, .no, .no, .no, .no]
  unfold uLboth
  walk_at "ewu"
  refine ixv2.mpr ?_
  walk_at "ewu"
  refine ixv1.mpr ?_
  walk_at "ewu"
  refine ixv1.mpr ?_
  walk_at "ewu"
  have eB : (if u.b > v.b then u.b else v.b) = max v.b u.b := by
    rw [Int.max_def]; split <;> split <;> omega
  rw [eB]
  have hB : 0 ≤ max v.b u.b ∧ max v.b u.b ≤ 100000 ∧ v.b ≤ max v.b u.b ∧ u.b ≤ max v.b u.b := by omega
  generalize hBB : max v.b u.b = B at *
  refine while_inv (fun m ρ => ∃ k : Int, ρ = [.val v.d, .val u.d, .val (.str w), .val (.int (k * v.l)), .val (.int B), .no, .no, .no, .no, .no, .no] ∧ 1 ≤ k ∧ k ≤ u.l ∧ m = (u.l - k).toNat) _ ⟨1, by rw [Int.one_mul], by omega, ul1, rfl⟩ ?_
  rintro m ρ ⟨k, rfl, k1, k2, rfl⟩
  walk_at "ewu"
  refine ixv2.mpr ?_
  walk_at "ewu"
  have kl : 0 < k * v.l := Int.mul_pos (by omega) (by omega)
  refine ⟨by omega, ?_⟩
  have r0 := Int.emod_nonneg (k * v.l) (show u.l ≠ 0 by omega)
  by_cases c : 0 < k * v.l % u.l
  · rw [decide_eq_true c]
    walk_at "ewu"
    refine ixv2.mpr ?_
    walk_at "ewu"
    have : k ≠ u.l := fun z => by rw [z, Int.mul_emod_right] at c; omega
    exact ⟨_, by omega, k + 1, by rw [Int.add_mul, Int.one_mul], by omega, by omega, rfl⟩
  rw [decide_eq_false c]
  have dN : u.l ∣ k * v.l := Int.dvd_of_emod_eq_zero (by omega)
  have hN : k * v.l ≤ v.l * u.l := by
    rw [Int.mul_comm v.l]; exact Int.mul_le_mul k2 (Int.le_refl _) (by omega) (by omega)
  have dv : v.l ∣ k * v.l := ⟨k, Int.mul_comm ..⟩
  generalize k * v.l = N at *
  walk_at "ewu"
  refine lc_unroll ?_
  walk_at "ewu"
  refine ixv0.mpr ?_
  walk_at "ewu"
  refine lc_int (fun _ => true) prT (by omega) (fun t acc R ht ha hR => ?_) ?_
  · walk_at "ewu"
    exact ⟨ha, hR⟩
  rw [filter_true]
  walk_at "ewu"
  refine ixv0.mpr ?_
  walk_at "ewu"
  refine lc_int (fun _ => true) prT (by omega) (fun t acc R ht ha hR => ?_) ?_
  · walk_at "ewu"
    exact ⟨ha, hR⟩
  rw [filter_true]
  walk_at "ewu"
  refine ⟨by omega, ?_⟩
  refine for_inv (fun i ρ => ∃ u7 u8 u9, ρ = [.val v.d, .val u.d, .val (.str w), .val (.int N), .val (.int B), .val (.lst [.mrk v.ts, .mrk u.ts]), .own (iL (tix (fun t => opW w (v.has t) (u.has t)) i)), u7, u8, u9, .no]) ⟨_, _, _, rfl⟩ ?_ ?_
  · rintro i d ρ hd ⟨u7, u8, u9, rfl⟩
    obtain ⟨hi, rfl⟩ := rngD_mem0 hd
    have tl := tix_len_le (f := fun t => opW w (v.has t) (u.has t)) (n := i)
    have ts := tix_succ (f := fun t => opW w (v.has t) (u.has t)) (n := i)
    walk_at "ewu"
    refine at_i okv ?_
    walk_at "ewu"
    refine at_i oku ?_
    walk_at "ewu"
    have ea : decide (v.at (i : Nat) ∈ v.ts) = v.has (i : Nat) := rfl
    have eb : decide (u.at (i : Nat) ∈ u.ts) = u.has (i : Nat) := rfl
    rw [ea, eb]
    have eop : opW w (v.has (i : Nat)) (u.has (i : Nat)) = if decide (w = Str.ofString "+") = true then (v.has (i : Nat) || u.has (i : Nat)) else if decide (w = Str.ofString "&") = true then (v.has (i : Nat) && u.has (i : Nat)) else (v.has (i : Nat) && !u.has (i : Nat)) := by
      unfold opW
      simp only [decide_eq_true_eq]
    rw [eop] at ts
    generalize decide (w = Str.ofString "+") = p at *
    generalize decide (w = Str.ofString "&") = q at *
    generalize v.has (i : Nat) = a at *
    generalize u.has (i : Nat) = b at *
    have l1 : (iL (tix (fun t => opW w (v.has t) (u.has t)) i)).length < 1000000 := by rw [iL_len]; omega
    generalize tix (fun t => opW w (v.has t) (u.has t)) i = T at *
    generalize tix (fun t => opW w (v.has t) (u.has t)) (i + 1) = T' at *
    have e1 : T' = T ++ [(i : Int)] → iL T ++ [D.int (i : Nat)] = iL T' := fun z => by rw [z, ← iL_app]; rfl
    have e0 : T' = T ++ [] → iL T = iL T' := fun z => by rw [z, List.append_nil]
    cases p <;> cases q <;> cases a <;> cases b <;> (
      simp only [if_true, if_false, Bool.false_eq_true, Bool.or_true, Bool.or_false, Bool.and_true, Bool.and_false, Bool.not_true, Bool.not_false, Bool.true_eq_false, decide_true, decide_false, reduceIte] at ts ⊢
      repeat (first | (simp only [if_true, if_false, Bool.false_eq_true, Bool.true_eq_false, decide_true, decide_false, reduceIte, e_app]) | walk_at "ewo")
      first
      | exact ⟨_, _, _, by rw [e0 ts]⟩
      | exact ⟨⟨_, rfl⟩, ⟨_, rfl, l1, _, _, _, by rw [← e1 ts]⟩⟩)
  rintro ρ ⟨u7, u8, u9, rfl⟩
  rw [rngD_length]
  walk_at "ewu"
  have x : VB := v
  refine h (tixV (fun t => opW w (v.has t) (u.has t)) B N) (tixV_ok hB.1 hB.2.1 (by omega) (by omega)) rfl dv dN hN (tixV_has hB.1 (by omega) (fun t ht => ?_) fun t ht => ?_)
  · show opW w (v.has t) (u.has t) = false
    rw [okv.neg ht, oku.neg ht]
    unfold opW
    split
    · rfl
    · split <;> rfl
  · show opW w (v.has t) (u.has t) = opW w (v.has (t + N)) (u.has (t + N))
    rw [okv.per_up hB.2.2.1 dv (by omega) t ht, oku.per_up hB.2.2.2 dN (by omega) t ht]
end TkL



namespace TkL
open PySem PySem.Spec PySem.Calls PyProof.Rows L2 Tk
section
variable (K : PySem.W.Frag) (C : Addr)
def tUPlawR : TS := (tSeq (tFor (iRng1 (tCons (tC (.int 2)) tNil)) (gName 2) (tSeq (tAsg (tLc (iRng1 (tCons (tC (.int 2)) tNil)) (gName 15) tYes (tDef (spU K C upPlan) E0 (tCons (tPer 1) (tCons (tC (.int 4)) tNil))) [15]) (gName 3))
    (tSeq (tPar 4 5 (tCons (tLc (iList K (tPer 3)) (gName 16) tYes (tDef (spU K C upValue) E0 (tCons (tPer 16) tNil)) [16]) (tCons (tLc (iList K (tPer 3)) (gName 16) tYes (tDef (spU K C upLawRow) E0 (tCons (tPer 16) tNil)) [16]) tNil)))
    (tSeq (tIfS (tTest (tOp (rI0 fun i j => V.bl (decide (j < i))) (tOp (rI CMul fun i j => V.int (i * j)) (tOp (rIxT K) (tOp (rIxL K) (tVar 4) (tC (.int 0))) (tC (.int 2))) (tOp (rIxT K) (tOp (rIxL K) (tVar 4) (tC (.int 1))) (tC (.int 2)))) (tC (.int 3000)))) tCont tNext)
    (tFor (iList K (tLst (tCons (tC (.str "+")) (tCons (tC (.str "&")) (tCons (tC (.str "-")) tNil))))) (gName 6) (tSeq (tAsg (tIf (tTest (tOp rEq (tVar 6) (tC (.str "+")))) (tOp (rOwn C (spU K C upAdd) E0) (tOp (rIxL K) (tVar 5) (tC (.int 0))) (tOp (rIxL K) (tVar 5) (tC (.int 1)))) (tIf (tTest (tOp rEq (tVar 6) (tC (.str "&")))) (tOp (rOwn C (spU K C upAnd) E0) (tOp (rIxL K) (tVar 5) (tC (.int 0))) (tOp (rIxL K) (tVar 5) (tC (.int 1)))) (tOp (rOwn C (spU K C upSub) E0) (tOp (rIxL K) (tVar 5) (tC (.int 0))) (tOp (rIxL K) (tVar 5) (tC (.int 1)))))) (gName 7))
    (tSeq (tAsg (tDef (spU K C upBoth) E0 (tCons (tOp (rIxL K) (tVar 4) (tC (.int 0))) (tCons (tOp (rIxL K) (tVar 4) (tC (.int 1))) (tCons (tPer 6) tNil)))) (gName 8))
    (tSeq (tAsg (tDef (spU K C upLawNormal) E0 (tCons (tPer 8) tNil)) (gTup K 4 (gCons (gName 9) (gCons (gName 10) (gCons (gName 11) (gCons (gName 12) gNil))))))
    (tSeq (tIfS (tNot (tB (tDef (spU K C upEqual) E0 (tCons (tLst (tCons (tPrp C (spU K C upText) E0 (tVar 7)) (tCons (tPrp C (spU K C upRep) E0 (tVar 7)) tNil))) (tCons (tLst (tCons (tDef (spU K C upLawText) E0 (tCons (tPer 8) tNil)) (tCons (tTup (tCons (tPer 10) (tCons (tPer 11) (tCons (tCB (kLen K) (tCons (tVar 12) tNil)) tNil)))) tNil))) tNil))))) (tRet (tC (.bl false))) tNext)
    (tSeq (tIfS (tOr (tTest (tOp rNe (tCB (kBoolO C (spU K C upBool) E0) (tCons (tVar 7) tNil)) (tOrV (tOp (rNeD K) (tVar 9) (tTup tNil)) (tOp (rNeD K) (tVar 12) (tTup tNil))))) (tTest (tOp rNe (tPrp C (spU K C upEndless) E0 (tVar 7)) (tOp (rNeD K) (tVar 12) (tTup tNil))))) (tRet (tC (.bl false))) tNext)
    (tSeq (tAsg (tDef (spU K C upValue) E0 (tCons (tDef (spU K C upPlan) E0 (tCons (tPer 1) (tCons (tC (.int 2)) tNil))) tNil)) (gName 13))
    (tIfS (tAnd (tTest (tOp (rI0 fun i j => V.bl (decide (i < j))) (tOp (rI CMul fun i j => V.int (i * j)) (tVar 11) (tOp (rIxT K) (tVar 13) (tC (.int 2)))) (tC (.int 1500)))) (tTest (tOp rNe (tVar 6) (tC (.str "+"))))) (tSeq (tAsg (tOp (rOwn C (spU K C upAdd) E0) (ClX.tCMeth C (spU K C upParse) E0 (tC (.ref C)) (tCons (tDef (spU K C upLawText) E0 (tCons (tPer 13) tNil)) tNil)) (tVar 7)) (gName 14))
    (tIfS (tNot (tB (tDef (spU K C upEqual) E0 (tCons (tPrp C (spU K C upText) E0 (tVar 14)) (tCons (tDef (spU K C upLawText) E0 (tCons (tDef (spU K C upBoth) E0 (tCons (tPer 13) (tCons (tPer 8) (tCons (tC (.str "+")) tNil)))) tNil)) tNil))))) (tRet (tC (.bl false))) tNext)) tNext))))))))))))
    (tRet (tC (.bl true))))
def tUPlaw : TS := tSeq (tAsg (tDef (spRandom K) E0 (tCons (tVar 0) (tCons (tC (.int 3)) tNil))) (gName 1)) (tUPlawR K C)
end
def uPlawR : US := (uSeq (uFor (uIRng1 (uCons (uC (.int 2)) uNil)) (uName 2) (uSeq (uAsg (uLc (uIRng1 (uCons (uC (.int 2)) uNil)) (uName 15) uYes (uDef upPlan (uCons (uPer 1) (uCons (uC (.int 4)) uNil))) [15]) (uName 3))
    (uSeq (uPar 4 5 (uCons (uLc (uIL (uPer 3)) (uName 16) uYes (uDef upValue (uCons (uPer 16) uNil)) [16]) (uCons (uLc (uIL (uPer 3)) (uName 16) uYes (uDef upLawRow (uCons (uPer 16) uNil)) [16]) uNil)))
    (uSeq (uIfS (uB (uOp (qI0 fun i j => D.bl (decide (j < i))) (uOp (qI CMul fun i j => D.int (i * j)) (uOp qIxT (uOp qIxL (uVar 4) (uC (.int 0))) (uC (.int 2))) (uOp qIxT (uOp qIxL (uVar 4) (uC (.int 1))) (uC (.int 2)))) (uC (.int 3000)))) uCont uNext)
    (uFor (uIL (uLst (uCons (uC (.str "+")) (uCons (uC (.str "&")) (uCons (uC (.str "-")) uNil))))) (uName 6) (uSeq (uAsg (uIf (uB (uOp qEq (uVar 6) (uC (.str "+")))) (uOp (qUpR upAdd) (uOp qIxL (uVar 5) (uC (.int 0))) (uOp qIxL (uVar 5) (uC (.int 1)))) (uIf (uB (uOp qEq (uVar 6) (uC (.str "&")))) (uOp (qUpR upAnd) (uOp qIxL (uVar 5) (uC (.int 0))) (uOp qIxL (uVar 5) (uC (.int 1)))) (uOp (qUpR upSub) (uOp qIxL (uVar 5) (uC (.int 0))) (uOp qIxL (uVar 5) (uC (.int 1)))))) (uName 7))
    (uSeq (uAsg (uDef upBoth (uCons (uOp qIxL (uVar 4) (uC (.int 0))) (uCons (uOp qIxL (uVar 4) (uC (.int 1))) (uCons (uPer 6) uNil)))) (uName 8))
    (uSeq (uAsg (uDef upLawNormal (uCons (uPer 8) uNil)) (uGTup 4 (uGCons (uName 9) (uGCons (uName 10) (uGCons (uName 11) (uGCons (uName 12) uGNil))))))
    (uSeq (uIfS (uNot (uB (uDef upEqual (uCons (uLst (uCons (uPrp upText (uVar 7)) (uCons (uPrp upRep (uVar 7)) uNil))) (uCons (uLst (uCons (uDef upLawText (uCons (uPer 8) uNil)) (uCons (uTup (uCons (uPer 10) (uCons (uPer 11) (uCons (uCB gLen (uCons (uVar 12) uNil)) uNil)))) uNil))) uNil))))) (uRet (uC (.bl false))) uNext)
    (uSeq (uIfS (uOr (uB (uOp qNe (uCB (gBoolO upBool) (uCons (uVar 7) uNil)) (uOrV (uOp qNeD (uVar 9) (uTup uNil)) (uOp qNeD (uVar 12) (uTup uNil))))) (uB (uOp qNe (uPrp upEndless (uVar 7)) (uOp qNeD (uVar 12) (uTup uNil))))) (uRet (uC (.bl false))) uNext)
    (uSeq (uAsg (uDef upValue (uCons (uDef upPlan (uCons (uPer 1) (uCons (uC (.int 2)) uNil))) uNil)) (uName 13))
    (uIfS (uAnd (uB (uOp (qI0 fun i j => D.bl (decide (i < j))) (uOp (qI CMul fun i j => D.int (i * j)) (uVar 11) (uOp qIxT (uVar 13) (uC (.int 2)))) (uC (.int 1500)))) (uB (uOp qNe (uVar 6) (uC (.str "+"))))) (uSeq (uAsg (uOp (qUpR upAdd) (uCM upParse (uC .cls) (uCons (uDef upLawText (uCons (uPer 13) uNil)) uNil)) (uVar 7)) (uName 14))
    (uIfS (uNot (uB (uDef upEqual (uCons (uPrp upText (uVar 14)) (uCons (uDef upLawText (uCons (uDef upBoth (uCons (uPer 13) (uCons (uPer 8) (uCons (uC (.str "+")) uNil)))) uNil)) uNil))))) (uRet (uC (.bl false))) uNext)) uNext))))))))))))
    (uRet (uC (.bl true))))
theorem simPlawR {K : PySem.W.Frag} {C : Addr} (B : Bs) (hK : B.K = K) (hC : B.C = C) : SimS B (tUPlawR K C) uPlawR := by
  subst hK hC
  exact (sS_seq (sS_for (sI_rng1 (sA_cons (SimE.w sE_int) sA_nil)) sG_name (sS_seq (sS_asg (SimN.e (sN_lc (sI_rng1 (sA_cons (SimE.w sE_int) sA_nil)) ktw_name sT_yes (sE_def (sP_cons sE_per (sP_cons sE_int sP_nil))))) sG_name)
    (sS_seq (sS_par (sP_cons (SimN.e (sN_lc (sI_list sE_per) ktw_name sT_yes (sE_def (sP_cons sE_per sP_nil)))) (sP_cons (SimN.e (sN_lc (sI_list sE_per) ktw_name sT_yes (sE_def (sP_cons sE_per sP_nil)))) sP_nil)))
    (sS_seq (sS_if (sT_test (SimE.w (sE_op (s2_I0 (fun _ _ _ => .bl)) (SimE.w (sE_op (s2_I (fun _ _ _ => .int)) (SimE.w (sE_op s2_ixT (SimE.w (sE_op s2_ixL sW_var (SimE.w sE_int))) (SimE.w sE_int))) (SimE.w (sE_op s2_ixT (SimE.w (sE_op s2_ixL sW_var (SimE.w sE_int))) (SimE.w sE_int))))) (SimE.w sE_int)))) sS_cont sS_next)
    (sS_for (sI_list (SimN.e (sN_lst (sP_cons sE_str (sP_cons sE_str (sP_cons sE_str sP_nil)))))) sG_name (sS_seq (sS_asg (sE_if (sT_test (SimE.w (sE_op s2_Eq sW_var (SimE.w sE_str)))) (sE_op s2_own (SimE.w (sE_op s2_ixL sW_var (SimE.w sE_int))) (SimE.w (sE_op s2_ixL sW_var (SimE.w sE_int)))) (sE_if (sT_test (SimE.w (sE_op s2_Eq sW_var (SimE.w sE_str)))) (sE_op s2_own (SimE.w (sE_op s2_ixL sW_var (SimE.w sE_int))) (SimE.w (sE_op s2_ixL sW_var (SimE.w sE_int)))) (sE_op s2_own (SimE.w (sE_op s2_ixL sW_var (SimE.w sE_int))) (SimE.w (sE_op s2_ixL sW_var (SimE.w sE_int)))))) sG_name)
    (sS_seq (sS_asg (sE_def (sP_cons (sE_op s2_ixL sW_var (SimE.w sE_int)) (sP_cons (sE_op s2_ixL sW_var (SimE.w sE_int)) (sP_cons sE_per sP_nil)))) sG_name)
    (sS_seq (sS_asg (sE_def (sP_cons sE_per sP_nil)) (sG_tup (sGs_cons sG_name (sGs_cons sG_name (sGs_cons sG_name (sGs_cons sG_name sGs_nil))))))
    (sS_seq (sS_if (sT_not (sT_B (SimE.w (sE_def (sP_cons (SimN.e (sN_lst (sP_cons (sE_prp sW_var) (sP_cons (sE_prp sW_var) sP_nil)))) (sP_cons (SimN.e (sN_lst (sP_cons (sE_def (sP_cons sE_per sP_nil)) (sP_cons (sE_tup (sP_cons sE_per (sP_cons sE_per (sP_cons (sE_cb sk_len (sA_cons sW_var sA_nil)) sP_nil)))) sP_nil)))) sP_nil)))))) (sS_ret sE_bl) sS_next)
    (sS_seq (sS_if (sT_or (sT_test (SimE.w (sE_op s2_Ne (SimE.w (sE_cb sk_boolO (sA_cons sW_var sA_nil))) (SimE.w (sE_orV (SimE.w (sE_op s2_NeD sW_var (SimE.w (sE_tup sP_nil)))) (sE_op s2_NeD sW_var (SimE.w (sE_tup sP_nil)))))))) (sT_test (SimE.w (sE_op s2_Ne (SimE.w (sE_prp sW_var)) (SimE.w (sE_op s2_NeD sW_var (SimE.w (sE_tup sP_nil)))))))) (sS_ret sE_bl) sS_next)
    (sS_seq (sS_asg (sE_def (sP_cons (sE_def (sP_cons sE_per (sP_cons sE_int sP_nil))) sP_nil)) sG_name)
    (sS_if (sT_and (sT_test (SimE.w (sE_op (s2_I0 (fun _ _ _ => .bl)) (SimE.w (sE_op (s2_I (fun _ _ _ => .int)) sW_var (SimE.w (sE_op s2_ixT sW_var (SimE.w sE_int))))) (SimE.w sE_int)))) (sT_test (SimE.w (sE_op s2_Ne sW_var (SimE.w sE_str))))) (sS_seq (sS_asg (sE_op s2_own (SimE.w (sE_cm (SimE.w sE_cls) (sP_cons (sE_def (sP_cons sE_per sP_nil)) sP_nil))) sW_var) sG_name)
    (sS_if (sT_not (sT_B (SimE.w (sE_def (sP_cons (sE_prp sW_var) (sP_cons (sE_def (sP_cons (sE_def (sP_cons sE_per (sP_cons sE_per (sP_cons sE_str sP_nil)))) sP_nil)) sP_nil)))))) (sS_ret sE_bl) sS_next)) sS_next))))))))))))
    (sS_ret sE_bl))
end TkL


local macro_rules | `(tactic| walk_at "st") => `(tactic| repeat (first | (with_reducible refine TkL.notY (by assumption) ?_) | (with_reducible refine TkL.neSameS ?_) | (with_reducible refine (TkL.e_qUpIn).mpr ?_) | (with_reducible refine TkL.endless_i ?_) | (with_reducible refine TkL.text_i ?_) | (with_reducible refine TkL.rep_i ?_) | (with_reducible refine TkL.laps_i ?_) | (with_reducible refine TkL.flaps_i ?_) | walk_at "ewo"))
namespace TkL
open PySem PySem.Spec PySem.Calls PyProof.Rows L2 Tk
theorem lw03 : uPlawR { nx := fun _ => False, rt := fun d => d = .bl true } (.no :: .val .src :: List.replicate 15 .no) := by
  show uPlawR _ [.no, .val .src, .no, .no, .no, .no, .no, .no, .no, .no, .no, .no, .no, .no, .no, .no, .no]
  unfold uPlawR
  walk_at "st"
  refine ⟨by omega, ?_⟩
  rw [rng2]
  refine for_inv (fun i ρ => ∃ u2 u3 u4 u5 u6 u7 u8 u9 u10 u11 u12 u13 u14, ρ = [.no, .val .src, u2, u3, u4, u5, u6, u7, u8, u9, u10, u11, u12, u13, u14, .no, .no]) ⟨_, _, _, _, _, _, _, _, _, _, _, _, _, rfl⟩ ?_ ?_
  · rintro i d ρ hd ⟨u2, u3, u4, u5, u6, u7, u8, u9, u10, u11, u12, u13, u14, rfl⟩
    clear hd
    walk_at "st"
    refine ⟨by omega, ?_⟩
    rw [rng2]
    refine lc_unroll ?_
    walk_at "st"
    refine plan_i (m := 4) (by decide) (by decide) fun s1 f1 l1 po1 => ?_
    walk_at "st"
    refine plan_i (m := 4) (by decide) (by decide) fun s2 f2 l2 po2 => ?_
    walk_at "st"
    refine lc_unroll ?_
    walk_at "st"
    refine valp_i po1 (by decide) ?_
    walk_at "st"
    refine valp_i po2 (by decide) ?_
    walk_at "st"
    refine lc_unroll ?_
    walk_at "st"
    refine rowp_i po1 (by decide) fun r1 pl1 => ?_
    walk_at "st"
    refine rowp_i po2 (by decide) fun r2 pl2 => ?_
    have dv1 := (plan_rd po1 pl1.rb pl1.hr pl1.ok).dv
    have dv2 := (plan_rd po2 pl2.rb pl2.hr pl2.ok).dv
    have el1 : (planV s1 f1 l1).l = l1.sum := rfl
    have el2 : (planV s2 f2 l2).l = l2.sum := rfl
    rw [← el1] at dv1
    rw [← el2] at dv2
    generalize hv1 : planV s1 f1 l1 = v1 at *
    generalize hv2 : planV s2 f2 l2 = v2 at *
    walk_at "st"
    refine ixv2.mpr ?_
    walk_at "st"
    refine ixv2.mpr ?_
    walk_at "st"
    have ok1 := pl1.ok
    have ok2 := pl2.ok
    have l1' := ok1.l1
    have l2' := ok2.l1
    have m1 := pl1.vl
    have m2 := pl2.vl
    have p12 : v1.l * v2.l ≤ 720 * 720 := Int.mul_le_mul m1 m2 (by omega) (by omega)
    have p12' : 1 * 1 ≤ v1.l * v2.l := Int.mul_le_mul l1' l2' (by omega) (by omega)
    refine ⟨.inl ⟨by omega, by omega⟩, ?_⟩
    by_cases hc : 3000 < v1.l * v2.l
    · rw [decide_eq_true hc]
      walk_at "st"
      exact ⟨_, _, _, _, _, _, _, _, _, _, _, _, _, rfl⟩
    rw [decide_eq_false hc]
    walk_at "st"
    refine for_inv (fun i ρ => ∃ u6 u7 u8 u9 u10 u11 u12 u13 u14, ρ = [.no, .val .src, .val d, .val (.lst [planD s1 f1 l1, planD s2 f2 l2]), .val (.lst [v1.d, v2.d]), .val (.lst [.row r1, .row r2]), u6, u7, u8, u9, u10, u11, u12, u13, u14, .no, .no]) ⟨_, _, _, _, _, _, _, _, _, rfl⟩ ?_ ?_
    · rintro j dw ρ hd ⟨u6, u7, u8, u9, u10, u11, u12, u13, u14, rfl⟩
      obtain ⟨w, hw, rfl⟩ : ∃ w : Str, (w = "+" ∨ w = "&" ∨ w = "-") ∧ dw = .str w := by
        match j, hd with
        | 0, hd => cases hd; exact ⟨_, .inl rfl, rfl⟩
        | 1, hd => cases hd; exact ⟨_, .inr (.inl rfl), rfl⟩
        | 2, hd => cases hd; exact ⟨_, .inr (.inr rfl), rfl⟩
      clear hd
      have d1 : RD (v1.l * v2.l) 300 r1 := ⟨pl1.rb, Int.dvd_trans dv1 ⟨v2.l, rfl⟩, pl1.bb⟩
      have d2 : RD (v1.l * v2.l) 300 r2 := ⟨pl2.rb, Int.dvd_trans dv2 ⟨v1.l, Int.mul_comm ..⟩, pl2.bb⟩
      have hN : 1 ≤ v1.l * v2.l ∧ v1.l * v2.l ≤ 20000 := by omega
      refine cutQ (S := fun q => RD (v1.l * v2.l) 300 q ∧ ∀ t, q.has t = opW w (r1.has t) (r2.has t)) (R := ?RQ) (fun key => ?useQ) ?restQ
      case useQ =>
        walk_at "st"
        by_cases p : w = "+"
        · rw [decide_eq_true p]
          walk_at "st"
          refine add_e d1 d2 hN (by omega) fun q dq hq => ?_
          walk_at "st"
          exact key q ⟨dq, fun t => by rw [hq]; unfold opW; rw [if_pos p]⟩
        rw [decide_eq_false p]
        walk_at "st"
        by_cases p2 : w = "&"
        · rw [decide_eq_true p2]
          walk_at "st"
          refine and_e d1 d2 hN (by omega) fun q dq hq => ?_
          walk_at "st"
          exact key q ⟨dq, fun t => by rw [hq]; unfold opW; rw [if_neg p, if_pos p2]⟩
        rw [decide_eq_false p2]
        walk_at "st"
        refine sub_e d1 d2 hN (by omega) fun q dq hq => ?_
        walk_at "st"
        exact key q ⟨dq, fun t => by rw [hq]; unfold opW; rw [if_neg p, if_neg p2]⟩
      case restQ =>
      rintro q ⟨dq, hq⟩
      refine both_i ok1 ok2 (by omega) hw fun x okx xb xd1 xd2 xl hx => ?_
      have hqx : ∀ t, q.has t = x.has t := fun t => by rw [hq, hx, pl1.hr, pl2.hr]
      walk_at "st"
      refine lawNormal_i okx dq.rb hqx ?_
      unfold normD
      walk_at "st"
      refine lawText_i okx dq.rb hqx ?_
      walk_at "st"
      refine eqT_i rfl (by simp [PlD]) ?_
      walk_at "st"
      have fA : q.early = [] → decide (0 < (q.early.length : Int) + q.offs.length) = !decide (q.offs = []) := fun he => by
        rw [he]
        cases q.offs with
        | nil => rfl
        | cons a l => simp
      have fB : ¬ q.early = [] → decide (0 < (q.early.length : Int) + q.offs.length) = true := fun he => by
        have := List.length_pos_iff.mpr he
        exact decide_eq_true (by omega)
      have fC : decide (q.offs ≠ []) = !decide (q.offs = []) := decide_not
      refine cut0 (R := ?RE) (fun keyE => ?useE) ?restE
      case useE =>
        rw [gBoolO_i]
        refine ⟨q, rfl, ?_⟩
        by_cases he : q.early = []
        · rw [decide_eq_true he]
          walk_at "ewu"
          refine neSameB (fA he) ?_
          walk_at "ewu"
          refine endless_i ?_
          walk_at "ewu"
          refine neSameB fC ?_
          walk_at "ewu"
          exact keyE
        · rw [decide_eq_false he]
          walk_at "ewu"
          refine neSameB (fB he) ?_
          walk_at "ewu"
          refine endless_i ?_
          walk_at "ewu"
          refine neSameB fC ?_
          walk_at "ewu"
          exact keyE
      case restE =>
      refine plan_i (m := 2) (by decide) (by decide) fun s3 f3 l3 po3 => ?_
      walk_at "st"
      refine valp_i po3 (by decide) ?_
      obtain ⟨r3, pl3⟩ := plan_row_i po3 (by decide)
      have dv3 := (plan_rd po3 pl3.rb pl3.hr pl3.ok).dv
      have el3 : (planV s3 f3 l3).l = l3.sum := rfl
      have b3 := sum_leK fun x hx => (po3.lr x hx).2
      have c3 := po3.ll
      rw [← el3] at dv3 b3
      generalize hv3 : planV s3 f3 l3 = v3 at *
      have ok3 := pl3.ok
      have l3' := ok3.l1
      have ql1 := dq.rb.c.wf.l1
      have qlb := dq.rb.lb
      have ql := Int.le_of_dvd (by omega) dq.dv
      have q3 : 1 * 1 ≤ q.len * v3.l := Int.mul_le_mul ql1 l3' (by omega) (by omega)
      have x3 : v3.l * x.l ≤ 120 * 3000 := Int.mul_le_mul (by omega) (by omega) (by have := okx.l1; omega) (by omega)
      refine ixv2.mpr ?_
      walk_at "st"
      refine ⟨.inl ⟨by omega, by omega⟩, ?_⟩
      by_cases h15 : q.len * v3.l < 1500
      · rw [decide_eq_true h15]
        walk_at "st"
        by_cases p : w = "+"
        · rw [decide_eq_true p]
          walk_at "st"
          exact ⟨_, _, _, _, _, _, _, _, _, rfl⟩
        rw [decide_eq_false p]
        walk_at "st"
        refine lawText_i ok3 pl3.rb pl3.hr ?_
        refine pl3.parse ?_
        walk_at "st"
        have d3 : RD (q.len * v3.l) 300 r3 := ⟨pl3.rb, Int.dvd_trans dv3 ⟨q.len, Int.mul_comm ..⟩, pl3.bb⟩
        have dq' : RD (q.len * v3.l) 300 q := ⟨dq.rb, ⟨v3.l, rfl⟩, dq.bm⟩
        refine add_e d3 dq' (by omega) (by decide) fun y dy ey => ?_
        walk_at "st"
        refine both_i ok3 okx (by omega) (.inl rfl) fun z okz zb zd1 zd2 zl hz => ?_
        have hyz : ∀ t, y.has t = z.has t := fun t => by rw [ey, hz, pl3.hr, hqx]; rfl
        walk_at "st"
        refine lawText_i okz dy.rb hyz ?_
        refine eqT_i rfl (by simp [PlD]) ?_
        walk_at "st"
        exact ⟨_, _, _, _, _, _, _, _, _, rfl⟩
      · rw [decide_eq_false h15]
        walk_at "st"
        exact ⟨_, _, _, _, _, _, _, _, _, rfl⟩
    rintro ρ ⟨u6, u7, u8, u9, u10, u11, u12, u13, u14, rfl⟩
    walk_at "st"
    exact ⟨_, _, _, _, _, _, _, _, _, _, _, _, _, rfl⟩
  rintro ρ ⟨u2, u3, u4, u5, u6, u7, u8, u9, u10, u11, u12, u13, u14, rfl⟩
  walk_at "st"
end TkL


namespace TkL
open PySem PySem.Spec PySem.Calls PyProof.Rows L2 Tk
def top (i : Nat) : Stmt := PySem.Challenge.pw_tracktimes_k03_joined_rows.main.body.getD i (.Pass ⟨0, 0, 0, 0⟩)
section
variable {P : Program} {w : World} {K : PySem.W.Frag} {mg : Str → Option Value} {base : Heap} {C : Addr}
theorem scLrandom : FnScope ["_law_script", "_law_salt", "_law_seed", "_law_cell"] ["_law_script", "_law_salt"] (defScope (top 27)) := ⟨rfl, rfl, rfl, by decide +kernel, rfl, by decide +kernel, by decide +kernel⟩
theorem okLrandom {f : Addr} {fd : FuncData} (F : Fun K "_law_random" "_law_random" (top 27) f fd) (T : TyF K C) (c : Cst mg) (b : Blt mg) (R : RowC K mg C)  : FnOk P w K mg base CX0 1 f fd ["_law_script", "_law_salt"] (spRandom K) := by
  refine F.ok scLrandom (fun vs H Q E h => ?_) (fun cdv A outer s H vs Q E hr h => ⟨tLrandom K, ?_, (rdLrandom T vs H Q E h)⟩)
  · (repeat (first | (rw [h.1]; rfl) | (obtain ⟨_, h⟩ := h)))
  · have sc := scLrandom
    exact (pss_cons (ps_set (i := 2) sc.nd rfl (.inl rfl) (pv 1))
      (pss_cons (ps_for PassesOwn.never rfl (pi_list (pv 0)) (pg_name (i := 3) sc.nd rfl (.inl rfl)) (pss_one (ps_set (i := 2) sc.nd rfl (.inl rfl) (pe_op op_mod (pe_op op_add (pe_op op_mul (pv 2) pe_int) (pe_callB c_abs (by rfl) b.abs (by decide +kernel) (pa_cons (pv 3) pa_nil))) pe_int))))
      (pss_one (ps_ret (pe_op op_cat (pe_lst (pa_cons (pv 2) (pa_cons pe_int pa_nil))) (pe_lc (own := [("_law_cell", 3)]) rfl sc.nd (pi_list (pv 0)) (blkOk_by (by rfl)) (fun _ _ _ _ _ => (pg_name (i := 3) sc.nd rfl (.inl rfl))) (fun _ _ _ _ _ => (pts_one (pt_cmpR op_ge (pv 3) (pe_op op_pow pe_int pe_int) (nomark _)))) (fun _ _ _ _ _ => (pv 3))))))))
theorem scLbelow : FnScope ["_law_d", "_law_limit", "_law_result"] ["_law_d", "_law_limit"] (defScope (top 28)) := ⟨rfl, rfl, rfl, by decide +kernel, rfl, by decide +kernel, by decide +kernel⟩
theorem okLbelow {f : Addr} {fd : FuncData} (F : Fun K "_law_below" "_law_below" (top 28) f fd) (T : TyF K C) (c : Cst mg) (b : Blt mg) (R : RowC K mg C)  : FnOk P w K mg base CX0 1 f fd ["_law_d", "_law_limit"] (spBelow) := by
  refine F.ok scLbelow (fun vs H Q E h => ?_) (fun cdv A outer s H vs Q E hr h => ⟨tLbelow K, ?_, (rdLbelow T vs H Q E h)⟩)
  · (repeat (first | (rw [h.1]; rfl) | (obtain ⟨_, h⟩ := h)))
  · have sc := scLbelow
    exact (pss_cons (ps_if (PW.pt (pw_and (pt_cmpR op_eq (pe_ix ix_list (pv 0) pe_int (fun _ _ => rfl)) pe_int (nomark _)) (pw_and1 (pt_cmpR op_gt (pe_callB c_len (by rfl) b.len (by decide +kernel) (pa_cons (pv 0) pa_nil)) pe_int (nomark _))))) (pss_one (ps_asg (pe_bm PySem.F.plainAttrs_list PySem.F.slot_list_pop PySem.F.type_list_pop mt_popAt (pv 0) (pa_cons pe_int pa_nil)) (pg_sub (pv 0) pe_int set_list))) pss_nil)
      (pss_cons (ps_if (pt_cmpR op_gt (pe_ix ix_list (pv 0) pe_int (fun _ _ => rfl)) pe_int (nomark _)) (pss_cons (ps_set (i := 2) sc.nd rfl (.inl rfl) (pe_op op_mod (pe_ix ix_list (pv 0) pe_int (fun _ _ => rfl)) (pv 1)))
      (pss_cons (ps_asg (pe_op op_fdiv (pe_ix ix_list (pv 0) pe_int (fun _ _ => rfl)) (pv 1)) (pg_sub (pv 0) pe_int set_list))
      (pss_one (ps_ret (pv 2))))) pss_nil)
      (pss_cons (ps_asg (pe_op op_mod (pe_op op_add (pe_op op_mul (pe_ix ix_list (pv 0) pe_int (fun _ _ => rfl)) pe_int) pe_int) pe_int) (pg_sub (pv 0) pe_int set_list))
      (pss_one (ps_ret (pe_op op_mod (pe_op op_fdiv (pe_ix ix_list (pv 0) pe_int (fun _ _ => rfl)) pe_int) (pv 1)))))))
theorem scLlaps : FnScope ["_law_d", "_law_most", "_law_longest", "_law_k"] ["_law_d", "_law_most"] (defScope (top 29)) := ⟨rfl, rfl, rfl, by decide +kernel, rfl, by decide +kernel, by decide +kernel⟩
theorem okLlaps {f : Addr} {fd : FuncData} (F : Fun K "_law_laps" "_law_laps" (top 29) f fd) (T : TyF K C) (c : Cst mg) (b : Blt mg) (R : RowC K mg C) (F_law_below : DefN P w K mg base CX0 1 "_law_below" ["_law_d", "_law_limit"] (spBelow)) : FnOk P w K mg base CX0 2 f fd ["_law_d", "_law_most"] (spLawLaps) := by
  refine F.ok scLlaps (fun vs H Q E h => ?_) (fun cdv A outer s H vs Q E hr h => ⟨tLlaps K, ?_, (rdLlaps T vs H Q E h)⟩)
  · (repeat (first | (rw [h.1]; rfl) | (obtain ⟨_, h⟩ := h)))
  · have sc := scLlaps
    exact (pss_cons (ps_set (i := 2) sc.nd rfl (.inr rfl) (pe_ix ix_list (pe_lst (pa_cons pe_int (pa_cons pe_int (pa_cons pe_int pa_nil)))) (pe_def F_law_below (hr.mono (by decide)) pass0 (pa_cons (pv 0) (pa_cons pe_int pa_nil))) (fun _ _ => rfl)))
      (pss_one (ps_ret (pe_callTy c_tuple (by rfl) b.tuple (by decide +kernel) (pa_cons (pe_lc (own := [("_law_k", 3)]) rfl sc.nd (pi_range1 (by rfl) b.range (pa_cons (pe_op op_add pe_int (pe_def F_law_below (hr.mono (by decide)) pass0 (pa_cons (pv 0) (pa_cons (pv 1) pa_nil)))) pa_nil)) (blkOk_by (by rfl)) (fun _ _ _ _ _ => (pg_name (i := 3) sc.nd rfl (.inl rfl))) (fun _ _ _ _ _ => pts_nil) (fun _ _ _ _ _ => (pe_op op_add pe_int (pe_def F_law_below (hr.mono (by decide)) pass0 (pa_cons (pv 0) (pa_cons (pv 2) pa_nil)))))) pa_nil)))))
theorem scLplan : FnScope ["_law_d", "_law_most", "_law_first"] ["_law_d", "_law_most"] (defScope (top 30)) := ⟨rfl, rfl, rfl, by decide +kernel, rfl, by decide +kernel, by decide +kernel⟩
theorem okLplan {f : Addr} {fd : FuncData} (F : Fun K "_law_plan" "_law_plan" (top 30) f fd) (T : TyF K C) (c : Cst mg) (b : Blt mg) (R : RowC K mg C) (F_law_below : DefN P w K mg base CX0 1 "_law_below" ["_law_d", "_law_limit"] (spBelow)) (F_law_laps : DefN P w K mg base CX0 2 "_law_laps" ["_law_d", "_law_most"] (spLawLaps)) : FnOk P w K mg base CX0 3 f fd ["_law_d", "_law_most"] (spPlan) := by
  refine F.ok scLplan (fun vs H Q E h => ?_) (fun cdv A outer s H vs Q E hr h => ⟨tLplan K, ?_, (rdLplan T vs H Q E h)⟩)
  · (repeat (first | (rw [h.1]; rfl) | (obtain ⟨_, h⟩ := h)))
  · have sc := scLplan
    exact (pss_cons (ps_set (i := 2) sc.nd rfl (.inl rfl) (pe_ifExp (pt_cmpR op_eq (pe_def F_law_below (hr.mono (by decide)) pass0 (pa_cons (pv 0) (pa_cons pe_int pa_nil))) pe_int (nomark _)) (pe_tup pa_nil) (pe_def F_law_laps (hr.mono (by decide)) pass0 (pa_cons (pv 0) (pa_cons pe_int pa_nil)))))
      (pss_one (ps_ret (pe_tup (pa_cons (pe_def F_law_below (hr.mono (by decide)) pass0 (pa_cons (pv 0) (pa_cons (pe_ix ix_list (pe_lst (pa_cons pe_int (pa_cons pe_int pa_nil))) (pe_def F_law_below (hr.mono (by decide)) pass0 (pa_cons (pv 0) (pa_cons pe_int pa_nil))) (fun _ _ => rfl)) pa_nil))) (pa_cons (pv 2) (pa_cons (pe_def F_law_laps (hr.mono (by decide)) pass0 (pa_cons (pv 0) (pa_cons (pv 1) pa_nil))) pa_nil)))))))
theorem scLvalue : FnScope ["_law_plan_here", "_law_start", "_law_first", "_law_laps_here", "_law_ticks", "_law_lap"] ["_law_plan_here"] (defScope (top 31)) := ⟨rfl, rfl, rfl, by decide +kernel, rfl, by decide +kernel, by decide +kernel⟩
theorem okLvalue {f : Addr} {fd : FuncData} (F : Fun K "_law_value" "_law_value" (top 31) f fd) (T : TyF K C) (c : Cst mg) (b : Blt mg) (R : RowC K mg C)  : FnOk P w K mg base CX0 1 f fd ["_law_plan_here"] (spU K C upValue) := by
  have hl : ∀ ds P, upValue ds P → ds.length = 1 := by
    intro ds P h; first | (obtain ⟨rfl, _⟩ := h; rfl) | (obtain ⟨_, rfl, _⟩ := h; rfl) | (obtain ⟨_, _, rfl, _⟩ := h; rfl) | (obtain ⟨_, _, _, rfl, _⟩ := h; rfl) | (obtain ⟨_, _, _, _, rfl, _⟩ := h; rfl) | (obtain ⟨_, _, _, _, _, rfl, _⟩ := h; rfl)
  refine F.ok scLvalue (fun vs H Q E h => len_of_sim hl h) (fun cdv A outer s H vs Q E hr h => ⟨tULvalue K, ?_, rd_of_sim simLvalue (fun ds P h => by rw [hl ds P h]; decide) rdUvalue h⟩)
  · have sc := scLvalue
    exact (pss_cons (ps_asg (pv 0) (pg_tup (by rfl) (pgs_cons (pg_name (i := 1) sc.nd rfl (.inl rfl)) (pgs_cons (pg_name (i := 2) sc.nd rfl (.inl rfl)) (pgs_cons (pg_name (i := 3) sc.nd rfl (.inl rfl)) pgs_nil)))))
      (pss_cons (ps_set (i := 4) sc.nd rfl (.inl rfl) (pe_lst (pa_cons (pv 1) pa_nil)))
      (pss_cons (ps_for PassesOwn.never rfl (pi_tup (pe_op op_catA (pv 2) (pv 3))) (pg_name (i := 5) sc.nd rfl (.inl rfl)) (pss_one (ps_expr (pe_bm PySem.F.plainAttrs_list PySem.F.slot_list_append PySem.F.type_list_append mt_append (pv 4) (pa_cons (pe_op op_add (pe_ix ix_list (pv 4) (pe_un un_neg pe_int) (fun _ _ => rfl)) (pv 5)) pa_nil)))))
      (pss_one (ps_ret (pe_tup (pa_cons (pe_slice sl_list (pv 4) po_none (po_some (pe_un un_neg pe_int))) (pa_cons (pe_op op_add (pv 1) (pe_callB (cr_sumT rfl) (by rfl) b.sum (by decide +kernel) (pa_cons (pv 2) pa_nil))) (pa_cons (pe_callB (cr_sumT rfl) (by rfl) b.sum (by decide +kernel) (pa_cons (pv 3) pa_nil)) pa_nil)))))))))
theorem scRinit : FnScope ["self", "early", "begin", "length", "offsets", "offset"] ["self", "early", "begin", "length", "offsets"] (defScope (inClass (top 18) 3)) := ⟨rfl, rfl, rfl, by decide +kernel, rfl, by decide +kernel, by decide +kernel⟩
theorem okRinit {f : Addr} {fd : FuncData} (F : Fun K "__init__" "Row.__init__" (inClass (top 18) 3) f fd) (T : TyF K C) (c : Cst mg) (b : Blt mg) (R : RowC K mg C)  : FnOk P w K mg base CX0 1 f fd ["self", "early", "begin", "length", "offsets"] (spInit K C) := by
  refine F.ok scRinit (fun vs H Q E h => ?_) (fun cdv A outer s H vs Q E hr h => ⟨tRinit K, ?_, (rdRinit T vs H Q E h)⟩)
  · (repeat (first | (rw [h.1]; rfl) | (obtain ⟨_, h⟩ := h)))
  · have sc := scRinit
    exact (pss_cons (ps_fld (pv 0) (pv 1) rfl)
      (pss_cons (ps_fld (pv 0) (pv 2) rfl)
      (pss_cons (ps_fld (pv 0) (pv 3) rfl)
      (pss_cons (ps_fld (pv 0) (pv 4) rfl)
      (pss_cons (ps_fld (pv 0) (pe_dc (own := [("offset", 5)]) rfl sc.nd (pi_tup (pv 4)) (blkOk_by (by rfl)) (fun _ _ _ _ _ => (pg_name (i := 5) sc.nd rfl (.inl rfl))) (fun _ _ _ _ _ => pts_nil) (fun _ _ _ _ _ => (pv 5)) (fun _ _ _ _ _ => pe_bl)) rfl)
      (pss_one (ps_fld (pv 0) (pe_tup (pa_cons (pv 1) (pa_cons (pv 2) (pa_cons (pv 3) (pa_cons (pv 4) pa_nil))))) rfl)))))))
theorem scPread_number : FnScope ["word", "digit"] ["word"] (defScope (top 19)) := ⟨rfl, rfl, rfl, by decide +kernel, rfl, by decide +kernel, by decide +kernel⟩
theorem okPread_number {f : Addr} {fd : FuncData} (F : Fun K "read_number" "read_number" (top 19) f fd) (T : TyF K C) (c : Cst mg) (b : Blt mg) (R : RowC K mg C)  : FnOk P w K mg base CX0 1 f fd ["word"] (spReadNumber) := by
  refine F.ok scPread_number (fun vs H Q E h => ?_) (fun cdv A outer s H vs Q E hr h => ⟨tPread_number K, ?_, (rdPread_number T vs H Q E h)⟩)
  · (repeat (first | (rw [h.1]; rfl) | (obtain ⟨_, h⟩ := h)))
  · have sc := scPread_number
    exact (pss_cons (ps_if (PW.pt (pw_or (pt_not (pt_chain op_le op_le pe_int (pe_callB c_lenS (by rfl) b.len (by decide +kernel) (pa_cons (pv 0) pa_nil)) (pe_gi c.MAX_DIGITS))) (pw_or1 (pt_val (pe_callB (cr_any rfl) (by rfl) b.any (by decide +kernel) (pa_cons (pe_lc (own := [("digit", 1)]) rfl sc.nd (pi_str (pv 0)) (blkOk_by (by rfl)) (fun _ _ _ _ _ => (pg_name (i := 1) sc.nd rfl (.inl rfl))) (fun _ _ _ _ _ => pts_nil) (fun _ _ _ _ _ => (pe_cmpR o_notInSig (pv 1) (pe_gs c.DIGITS) (by rfl)))) pa_nil)))))) (pss_one (ps_ret pe_non)) pss_nil)
      (pss_one (ps_ret (pe_ifExp (PW.pt (pw_and (pt_cmpR op_gt (pe_callB c_lenS (by rfl) b.len (by decide +kernel) (pa_cons (pv 0) pa_nil)) pe_int (nomark _)) (pw_and1 (pt_cmpR op_eq (pe_ix ix_str (pv 0) pe_int (fun _ _ => rfl)) pe_str (nomark _))))) pe_non (pe_callTy c_intS (by rfl) b.int (by decide +kernel) (pa_cons (pv 0) pa_nil))))))
theorem scPshortest : FnScope ["length", "offsets", "marks", "size", "offset"] ["length", "offsets"] (defScope (top 23)) := ⟨rfl, rfl, rfl, by decide +kernel, rfl, by decide +kernel, by decide +kernel⟩
theorem okPshortest {f : Addr} {fd : FuncData} (F : Fun K "shortest" "shortest" (top 23) f fd) (T : TyF K C) (c : Cst mg) (b : Blt mg) (R : RowC K mg C)  : FnOk P w K mg base CX0 1 f fd ["length", "offsets"] (spShortest K) := by
  refine F.ok scPshortest (fun vs H Q E h => ?_) (fun cdv A outer s H vs Q E hr h => ⟨tPshortest K, ?_, (rdPshortest T vs H Q E h)⟩)
  · (repeat (first | (rw [h.1]; rfl) | (obtain ⟨_, h⟩ := h)))
  · have sc := scPshortest
    exact (pss_cons (ps_set (i := 2) sc.nd rfl (.inr rfl) (pe_dc (own := [("offset", 4)]) rfl sc.nd (pi_seq (pv 1)) (blkOk_by (by rfl)) (fun _ _ _ _ _ => (pg_name (i := 4) sc.nd rfl (.inl rfl))) (fun _ _ _ _ _ => pts_nil) (fun _ _ _ _ _ => (pv 4)) (fun _ _ _ _ _ => pe_bl)))
      (pss_cons (ps_for PassesOwn.never rfl (pi_range2 (by rfl) b.range (pa_cons pe_int (pa_cons (pv 0) pa_nil))) (pg_name (i := 3) sc.nd rfl (.inr rfl)) (pss_one (ps_if (PW.pt (pw_and (pt_cmpR op_eq (pe_op op_mod (pv 0) (pv 3)) pe_int (nomark _)) (pw_and1 (pt_val (pe_callB (cr_all rfl) (by rfl) b.all (by decide +kernel) (pa_cons (pe_lc (own := [("offset", 4)]) rfl sc.nd (pi_seq (pv 1)) (blkOk_by (by rfl)) (fun _ _ _ _ _ => (pg_name (i := 4) sc.nd rfl (.inl rfl))) (fun _ _ _ _ _ => pts_nil) (fun _ _ _ _ _ => (pe_cmp (pc_din (rm1 hr) (pe_op op_mod (pe_op op_add (pv 4) (pv 3)) (pv 0)) (pv 2)) rfl))) pa_nil)))))) (pss_one (ps_ret (pv 3))) pss_nil)))
      (pss_one (ps_ret (pv 0)))))
theorem scPnormal : FnScope ["early", "begin", "length", "offsets", "size", "marks", "last", "back", "left", "found", "is_early", "offset", "mark"] ["early", "begin", "length", "offsets"] (defScope (top 24)) := ⟨rfl, rfl, rfl, by decide +kernel, rfl, by decide +kernel, by decide +kernel⟩
theorem okPnormal {f : Addr} {fd : FuncData} (F : Fun K "normal" "normal" (top 24) f fd) (T : TyF K C) (c : Cst mg) (b : Blt mg) (R : RowC K mg C) (FmkRow : MkN P w K mg base CX0 1 C (spInit K C)) (Fshortest : DefN P w K mg base CX0 1 "shortest" ["length", "offsets"] (spShortest K)) : FnOk P w K mg base CX0 3 f fd ["early", "begin", "length", "offsets"] (spNormal K C) := by
  refine F.ok scPnormal (fun vs H Q E h => ?_) (fun cdv A outer s H vs Q E hr h => ⟨tPnormal K C, ?_, (rdPnormal T vs H Q E h)⟩)
  · (repeat (first | (rw [h.1]; rfl) | (obtain ⟨_, h⟩ := h)))
  · have sc := scPnormal
    exact (pss_cons (ps_if (pt_cmpR op_eq (pe_callB c_len (by rfl) b.len (by decide +kernel) (pa_cons (pv 3) pa_nil)) pe_int (nomark _)) (pss_one (ps_ret (pe_mkN FmkRow (hr.mono (by decide)) R.gC pass0 (pa_cons (pe_callTy c_tuple (by rfl) b.tuple (by decide +kernel) (pa_cons (pv 0) pa_nil)) (pa_cons (pe_ifExp (pt_cmpR op_gt (pe_callB c_len (by rfl) b.len (by decide +kernel) (pa_cons (pv 0) pa_nil)) pe_int (nomark _)) (pe_op op_add (pe_ix ix_list (pv 0) (pe_un un_neg pe_int) (fun _ _ => rfl)) pe_int) pe_int) (pa_cons pe_int (pa_cons (pe_tup pa_nil) pa_nil))))))) pss_nil)
      (pss_cons (ps_set (i := 4) sc.nd rfl (.inr rfl) (pe_def Fshortest (hr.mono (by decide)) pass0 (pa_cons (pv 2) (pa_cons (pv 3) pa_nil))))
      (pss_cons (ps_setDc (i := 5) (own := [("offset", 11)]) rfl sc.nd rfl rfl (swd_true rfl rfl rfl (by decide +kernel)) (pi_seq (pv 3)) (blkOk_by (by rfl)) (fun _ _ _ _ _ => (pg_name (i := 11) sc.nd rfl (.inl rfl))) (fun _ _ _ _ _ => pts_nil) (fun _ _ _ _ _ => (pe_op op_mod (pv 11) (pv 4))) (fun _ _ _ _ _ => pe_bl))
      (pss_cons (ps_asg (pe_tup (pa_cons (pv 1) (pa_cons pe_int (pa_cons (pe_callB c_len (by rfl) b.len (by decide +kernel) (pa_cons (pv 0) pa_nil)) pa_nil)))) (pg_tup (by rfl) (pgs_cons (pg_name (i := 6) sc.nd rfl (.inl rfl)) (pgs_cons (pg_name (i := 7) sc.nd rfl (.inr rfl)) (pgs_cons (pg_name (i := 8) sc.nd rfl (.inl rfl)) pgs_nil)))))
      (pss_cons (ps_while PassesOwn.never (pt_cmpR op_gt (pv 6) pe_int (nomark _)) (pss_cons (ps_set (i := 10) sc.nd rfl (.inl rfl) (pe_and (pe_cmpR op_gt (pv 8) pe_int (nomark _)) (pe_one (pe_cmpR op_eq (pe_ix ix_list (pv 0) (pe_op op_sub (pv 8) pe_int) (fun _ _ => rfl)) (pe_op op_sub (pv 6) pe_int) (nomark _)))))
      (pss_cons (ps_if (pt_cmpR op_ne (pv 10) (pe_cmp (pc_din (rm1 hr) (pe_op op_mod (pe_op op_sub (pe_un un_neg pe_int) (pv 7)) (pv 4)) (pv 5)) rfl) (nomark _)) (pss_one ps_break) pss_nil)
      (pss_one (ps_asg (pe_tup (pa_cons (pe_op op_sub (pv 6) pe_int) (pa_cons (pe_op op_add (pv 7) pe_int) (pa_cons (pe_op op_sub (pv 8) (pe_callTy c_int (by rfl) b.int (by decide +kernel) (pa_cons (pv 10) pa_nil))) pa_nil)))) (pg_tup (by rfl) (pgs_cons (pg_name (i := 6) sc.nd rfl (.inl rfl)) (pgs_cons (pg_name (i := 7) sc.nd rfl (.inr rfl)) (pgs_cons (pg_name (i := 8) sc.nd rfl (.inl rfl)) pgs_nil)))))))))
      (pss_cons (ps_lock (ps_setLc (i := 9) (own := [("mark", 12)]) rfl sc.nd rfl rfl (sw_true rfl rfl rfl (by decide +kernel)) (pi_keys (pv 5)) (blkOk_by (by rfl)) (fun _ _ _ _ _ => (pg_name (i := 12) sc.nd rfl (.inl rfl))) (fun _ _ _ _ _ => pts_nil) (fun _ _ _ _ _ => (pe_op op_mod (pe_op op_add (pv 12) (pv 7)) (pv 4)))))
      (pss_one (ps_ret (pe_mkN FmkRow (hr.mono (by decide)) R.gC pass0 (pa_cons (pe_callTy c_tuple (by rfl) b.tuple (by decide +kernel) (pa_cons (pe_slice sl_list (pv 0) po_none (po_some (pv 8))) pa_nil)) (pa_cons (pv 6) (pa_cons (pv 4) (pa_cons (pe_callTy c_tuple (by rfl) b.tuple (by decide +kernel) (pa_cons (pe_callB cr_sortedI (by rfl) b.sorted (by decide +kernel) (pa_cons (pe_lc (own := [("mark", 12)]) rfl sc.nd (pi_list (pv 9)) (blkOk_by (by rfl)) (fun _ _ _ _ _ => (pg_name (i := 12) sc.nd rfl (.inl rfl))) (fun _ _ _ _ _ => pts_nil) (fun _ _ _ _ _ => (pe_callTy c_int (by rfl) b.int (by decide +kernel) (pa_cons (pv 12) pa_nil)))) pa_nil)) pa_nil)) pa_nil)))))))))))))
theorem scProw_of_ticks : FnScope ["ticks"] ["ticks"] (defScope (top 21)) := ⟨rfl, rfl, rfl, by decide +kernel, rfl, by decide +kernel, by decide +kernel⟩
theorem okProw_of_ticks {f : Addr} {fd : FuncData} (F : Fun K "row_of_ticks" "row_of_ticks" (top 21) f fd) (T : TyF K C) (c : Cst mg) (b : Blt mg) (R : RowC K mg C) (Fnormal : DefN P w K mg base CX0 3 "normal" ["early", "begin", "length", "offsets"] (spNormal K C)) : FnOk P w K mg base CX0 5 f fd ["ticks"] (spRowOfTicks K C) := by
  refine F.ok scProw_of_ticks (fun vs H Q E h => ?_) (fun cdv A outer s H vs Q E hr h => ⟨tProw_of_ticks K C, ?_, (rdProw_of_ticks T vs H Q E h)⟩)
  · (repeat (first | (rw [h.1]; rfl) | (obtain ⟨_, h⟩ := h)))
  · have sc := scProw_of_ticks
    exact (pss_one (ps_ret (pe_def Fnormal (hr.mono (by decide)) pass0 (pa_cons (pv 0) (pa_cons (pe_op op_add (pe_ix ix_list (pv 0) (pe_un un_neg pe_int) (fun _ _ => rfl)) pe_int) (pa_cons pe_int (pa_cons (pe_lst pa_nil) pa_nil)))))))
theorem scPticks_of : FnScope ["numbers", "ticks", "lap"] ["numbers"] (defScope (top 20)) := ⟨rfl, rfl, rfl, by decide +kernel, rfl, by decide +kernel, by decide +kernel⟩
theorem okPticks_of {f : Addr} {fd : FuncData} (F : Fun K "ticks_of" "ticks_of" (top 20) f fd) (T : TyF K C) (c : Cst mg) (b : Blt mg) (R : RowC K mg C)  : FnOk P w K mg base CX0 1 f fd ["numbers"] (spTicksOf K) := by
  refine F.ok scPticks_of (fun vs H Q E h => ?_) (fun cdv A outer s H vs Q E hr h => ⟨tPticks_of K, ?_, (rdPticks_of T vs H Q E h)⟩)
  · (repeat (first | (rw [h.1]; rfl) | (obtain ⟨_, h⟩ := h)))
  · have sc := scPticks_of
    exact (pss_cons (ps_set (i := 1) sc.nd rfl (.inl rfl) (pe_lst (pa_cons (pe_ix ix_list (pv 0) pe_int (fun _ _ => rfl)) pa_nil)))
      (pss_cons (ps_for PassesOwn.never rfl (pi_list (pe_slice sl_list (pv 0) (po_some pe_int) po_none)) (pg_name (i := 2) sc.nd rfl (.inl rfl)) (pss_one (ps_expr (pe_bm PySem.F.plainAttrs_list PySem.F.slot_list_append PySem.F.type_list_append mt_append (pv 1) (pa_cons (pe_op op_add (pe_ix ix_list (pv 1) (pe_un un_neg pe_int) (fun _ _ => rfl)) (pv 2)) pa_nil)))))
      (pss_one (ps_ret (pv 1)))))
theorem scProw_of_laps : FnScope ["start", "first", "laps", "early", "begin", "offsets", "length"] ["start", "first", "laps"] (defScope (top 22)) := ⟨rfl, rfl, rfl, by decide +kernel, rfl, by decide +kernel, by decide +kernel⟩
theorem okProw_of_laps {f : Addr} {fd : FuncData} (F : Fun K "row_of_laps" "row_of_laps" (top 22) f fd) (T : TyF K C) (c : Cst mg) (b : Blt mg) (R : RowC K mg C) (Fticks_of : DefN P w K mg base CX0 1 "ticks_of" ["numbers"] (spTicksOf K)) (Fnormal : DefN P w K mg base CX0 3 "normal" ["early", "begin", "length", "offsets"] (spNormal K C)) : FnOk P w K mg base CX0 5 f fd ["start", "first", "laps"] (spRowOfLaps K C) := by
  refine F.ok scProw_of_laps (fun vs H Q E h => ?_) (fun cdv A outer s H vs Q E hr h => ⟨tProw_of_laps K C, ?_, (rdProw_of_laps T vs H Q E h)⟩)
  · (repeat (first | (rw [h.1]; rfl) | (obtain ⟨_, h⟩ := h)))
  · have sc := scProw_of_laps
    exact (pss_cons (ps_set (i := 3) sc.nd rfl (.inl rfl) (pe_def Fticks_of (hr.mono (by decide)) pass0 (pa_cons (pe_op op_cat (pe_lst (pa_cons (pv 0) pa_nil)) (pe_callTy c_list (by rfl) b.list (by decide +kernel) (pa_cons (pv 1) pa_nil))) pa_nil)))
      (pss_cons (ps_set (i := 4) sc.nd rfl (.inl rfl) (pe_bm0 PySem.F.plainAttrs_list PySem.F.slot_list_pop PySem.F.type_list_pop mt_pop (pv 3)))
      (pss_cons (ps_set (i := 5) sc.nd rfl (.inl rfl) (pe_def Fticks_of (hr.mono (by decide)) pass0 (pa_cons (pe_op op_cat (pe_lst (pa_cons pe_int pa_nil)) (pe_callTy c_list (by rfl) b.list (by decide +kernel) (pa_cons (pv 2) pa_nil))) pa_nil)))
      (pss_cons (ps_set (i := 6) sc.nd rfl (.inl rfl) (pe_bm0 PySem.F.plainAttrs_list PySem.F.slot_list_pop PySem.F.type_list_pop mt_pop (pv 5)))
      (pss_one (ps_ret (pe_def Fnormal (hr.mono (by decide)) pass0 (pa_cons (pv 3) (pa_cons (pv 4) (pa_cons (pv 6) (pa_cons (pv 5) pa_nil)))))))))))
theorem scRparse : FnScope ["cls", "text", "words", "numbers", "bar", "place", "word", "number"] ["cls", "text"] (defScope (inClass (top 18) 5)) := ⟨rfl, rfl, rfl, by decide +kernel, rfl, by decide +kernel, by decide +kernel⟩
theorem okRparse {f : Addr} {fd : FuncData} (F : Fun K "parse" "Row.parse" (inClass (top 18) 5) f fd) (T : TyF K C) (c : Cst mg) (b : Blt mg) (R : RowC K mg C) (FmkRow : MkN P w K mg base CX0 1 C (spInit K C)) (Fread_number : DefN P w K mg base CX0 1 "read_number" ["word"] (spReadNumber)) (Frow_of_ticks : DefN P w K mg base CX0 5 "row_of_ticks" ["ticks"] (spRowOfTicks K C)) (Fticks_of : DefN P w K mg base CX0 1 "ticks_of" ["numbers"] (spTicksOf K)) (Frow_of_laps : DefN P w K mg base CX0 5 "row_of_laps" ["start", "first", "laps"] (spRowOfLaps K C)) : FnOk P w K mg base CX0 6 f fd ["cls", "text"] (spParse K C) := by
  refine F.ok scRparse (fun vs H Q E h => ?_) (fun cdv A outer s H vs Q E hr h => ⟨tRparse K C, ?_, (rdRparse T vs H Q E h)⟩)
  · (repeat (first | (rw [h.1]; rfl) | (obtain ⟨_, h⟩ := h)))
  · have sc := scRparse
    exact (pss_cons (ps_if (pt_cmpR op_eq (pv 1) (pe_gs c.NEVER) (nomark _)) (pss_one (ps_ret (pe_mkV (i := 0) FmkRow (hr.mono (by decide)) pass0 (pa_cons (pe_tup pa_nil) (pa_cons pe_int (pa_cons pe_int (pa_cons (pe_tup pa_nil) pa_nil))))))) pss_nil)
      (pss_cons (ps_set (i := 2) sc.nd rfl (.inl rfl) (pe_bm PySem.F.plainAttrs_str PySem.F.slot_str_split PySem.F.type_str_split m_split (pv 1) (pa_cons pe_str pa_nil)))
      (pss_cons (ps_par (i := 3) (j := 4) (by rfl) sc.nd rfl rfl (by decide) rfl rfl (pa_cons (pe_lst pa_nil) (pa_cons pe_non pa_nil)) (by rfl))
      (pss_cons (ps_for PassesOwn.never rfl (pi_enumA b.enumerate (pa_cons (pv 2) pa_nil)) (pg_tup (by rfl) (pgs_cons (pg_name (i := 5) sc.nd rfl (.inl rfl)) (pgs_cons (pg_name (i := 6) sc.nd rfl (.inl rfl)) pgs_nil))) (pss_one (ps_if (PW.pt (pw_and (pt_cmpR op_eq (pv 6) (pe_gs c.BAR) (nomark _)) (pw_and (pt_cmpR o_isNon (pv 4) pe_non (nomark _)) (pw_and1 (pt_cmpR op_gt (pv 5) pe_int (nomark _)))))) (pss_one (ps_set (i := 4) sc.nd rfl (.inl rfl) (pe_callB c_len (by rfl) b.len (by decide +kernel) (pa_cons (pv 3) pa_nil)))) (pss_cons (ps_set (i := 7) sc.nd rfl (.inl rfl) (pe_def Fread_number (hr.mono (by decide)) pass0 (pa_cons (pv 6) pa_nil)))
      (pss_cons (ps_if (PW.pt (pw_or (pt_cmpR o_isNon (pv 7) pe_non (nomark _)) (pw_or (PW.pt (pw_and (pt_cmpR op_eq (pv 7) pe_int (nomark _)) (pw_and1 (pt_cmpR op_gt (pv 5) pe_int (nomark _))))) (pw_or1 (pt_cmpR op_gt (pv 7) (pe_gi c.MAX_BEGIN) (nomark _)))))) (pss_one ps_never) pss_nil)
      (pss_cons (ps_expr (pe_bm PySem.F.plainAttrs_list PySem.F.slot_list_append PySem.F.type_list_append mt_append (pv 3) (pa_cons (pv 7) pa_nil)))
      (pss_one (ps_if (PW.pt (pw_or (PW.pt (pw_and (pt_cmpR o_isNon (pv 4) pe_non (nomark _)) (pw_and1 (pt_cmpR op_gt (pe_callB (cr_sum rfl) (by rfl) b.sum (by decide +kernel) (pa_cons (pv 3) pa_nil)) (pe_gi c.MAX_BEGIN) (nomark _))))) (pw_or1 (PW.pt (pw_and (pt_cmpR o_notNon (pv 4) pe_non (nomark _)) (pw_and1 (pt_cmpR op_gt (pe_callB (cr_sum rfl) (by rfl) b.sum (by decide +kernel) (pa_cons (pe_slice sl_list (pv 3) (po_some (pv 4)) po_none) pa_nil)) (pe_gi c.MAX_LENGTH) (nomark _)))))))) (pss_one ps_never) pss_nil))))))))
      (pss_cons (ps_if (pt_cmpR o_isNon (pv 4) pe_non (nomark _)) (pss_one (ps_ret (pe_def Frow_of_ticks (hr.mono (by decide)) pass0 (pa_cons (pe_def Fticks_of (hr.mono (by decide)) pass0 (pa_cons (pv 3) pa_nil)) pa_nil)))) pss_nil)
      (pss_cons (ps_if (pt_cmpR op_eq (pv 4) (pe_callB c_len (by rfl) b.len (by decide +kernel) (pa_cons (pv 3) pa_nil)) (nomark _)) (pss_one ps_never) pss_nil)
      (pss_one (ps_ret (pe_def Frow_of_laps (hr.mono (by decide)) pass0 (pa_cons (pe_ix ix_list (pv 3) pe_int (fun _ _ => rfl)) (pa_cons (pe_slice sl_list (pv 3) (po_some pe_int) (po_some (pv 4))) (pa_cons (pe_slice sl_list (pv 3) (po_some (pv 4)) po_none) pa_nil))))))))))))
theorem scLrow : FnScope ["_law_plan_here", "_law_start", "_law_first", "_law_laps_here", "_law_lap", "_law_number"] ["_law_plan_here"] (defScope (top 32)) := ⟨rfl, rfl, rfl, by decide +kernel, rfl, by decide +kernel, by decide +kernel⟩
theorem okLrow {f : Addr} {fd : FuncData} (F : Fun K "_law_row" "_law_row" (top 32) f fd) (T : TyF K C) (c : Cst mg) (b : Blt mg) (R : RowC K mg C) (Fparse : CmN P w K mg base CX0 6 C "parse" (spU K C upParse)) : FnOk P w K mg base CX0 8 f fd ["_law_plan_here"] (spU K C upLawRow) := by
  have hl : ∀ ds P, upLawRow ds P → ds.length = 1 := by
    intro ds P h; first | (obtain ⟨rfl, _⟩ := h; rfl) | (obtain ⟨_, rfl, _⟩ := h; rfl) | (obtain ⟨_, _, rfl, _⟩ := h; rfl) | (obtain ⟨_, _, _, rfl, _⟩ := h; rfl) | (obtain ⟨_, _, _, _, rfl, _⟩ := h; rfl) | (obtain ⟨_, _, _, _, _, rfl, _⟩ := h; rfl)
  refine F.ok scLrow (fun vs H Q E h => len_of_sim hl h) (fun cdv A outer s H vs Q E hr h => ⟨tULrow K C, ?_, rd_of_sim simLrow (fun ds P h => by rw [hl ds P h]; decide) rdUrow h⟩)
  · have sc := scLrow
    exact (pss_cons (ps_asg (pv 0) (pg_tup (by rfl) (pgs_cons (pg_name (i := 1) sc.nd rfl (.inl rfl)) (pgs_cons (pg_name (i := 2) sc.nd rfl (.inl rfl)) (pgs_cons (pg_name (i := 3) sc.nd rfl (.inl rfl)) pgs_nil)))))
      (pss_one (ps_ret (pe_cm Fparse (hr.mono (by decide)) pass0 (pe_gc R.gC) (pa_cons (pe_bm PySem.F.plainAttrs_str PySem.F.slot_str_join PySem.F.type_str_join m_join pe_str (pa_cons (pe_op op_cat (pe_op op_cat (pe_lc (own := [("_law_number", 5)]) rfl sc.nd (pi_tup (pe_op op_catA (pe_tup (pa_cons (pv 1) pa_nil)) (pv 2))) (blkOk_by (by rfl)) (fun _ _ _ _ _ => (pg_name (i := 5) sc.nd rfl (.inl rfl))) (fun _ _ _ _ _ => pts_nil) (fun _ _ _ _ _ => (pe_callTy c_str (by rfl) b.str (by decide +kernel) (pa_cons (pv 5) pa_nil)))) (pe_lst (pa_cons pe_str pa_nil))) (pe_lc (own := [("_law_lap", 4)]) rfl sc.nd (pi_tup (pv 3)) (blkOk_by (by rfl)) (fun _ _ _ _ _ => (pg_name (i := 4) sc.nd rfl (.inl rfl))) (fun _ _ _ _ _ => pts_nil) (fun _ _ _ _ _ => (pe_callTy c_str (by rfl) b.str (by decide +kernel) (pa_cons (pv 4) pa_nil))))) pa_nil)) pa_nil)))))
theorem scPcommon_divisor : FnScope ["one", "other"] ["one", "other"] (defScope (top 17)) := ⟨rfl, rfl, rfl, by decide +kernel, rfl, by decide +kernel, by decide +kernel⟩
theorem okPcommon_divisor {f : Addr} {fd : FuncData} (F : Fun K "common_divisor" "common_divisor" (top 17) f fd) (T : TyF K C) (c : Cst mg) (b : Blt mg) (R : RowC K mg C)  : FnOk P w K mg base CX0 1 f fd ["one", "other"] (spGcd) := by
  refine F.ok scPcommon_divisor (fun vs H Q E h => ?_) (fun cdv A outer s H vs Q E hr h => ⟨tPcommon_divisor, ?_, (rdPcommon_divisor T vs H Q E h)⟩)
  · (repeat (first | (rw [h.1]; rfl) | (obtain ⟨_, h⟩ := h)))
  · have sc := scPcommon_divisor
    exact (pss_cons (ps_while PassesOwn.never (pt_cmpR op_gt (pv 1) pe_int (nomark _)) (pss_one (ps_par (i := 0) (j := 1) (by rfl) sc.nd rfl rfl (by decide) rfl rfl (pa_cons (pv 1) (pa_cons (pe_op op_mod (pv 0) (pv 1)) pa_nil)) (by rfl))))
      (pss_one (ps_ret (pv 0))))
theorem scRticks_before : FnScope ["self", "end", "found", "start", "offset"] ["self", "end"] (defScope (inClass (top 18) 13)) := ⟨rfl, rfl, rfl, by decide +kernel, rfl, by decide +kernel, by decide +kernel⟩
theorem okRticks_before {f : Addr} {fd : FuncData} (F : Fun K "ticks_before" "Row.ticks_before" (inClass (top 18) 13) f fd) (T : TyF K C) (c : Cst mg) (b : Blt mg) (R : RowC K mg C)  : FnOk P w K mg base CX0 1 f fd ["self", "end"] (spTicksBefore K C) := by
  refine F.ok scRticks_before (fun vs H Q E h => ?_) (fun cdv A outer s H vs Q E hr h => ⟨tRticks_before K, ?_, (rdRticks_before T vs H Q E h)⟩)
  · (repeat (first | (rw [h.1]; rfl) | (obtain ⟨_, h⟩ := h)))
  · have sc := scRticks_before
    exact (pss_cons (ps_set (i := 2) sc.nd rfl (.inl rfl) (pe_callTy c_list (by rfl) b.list (by decide +kernel) (pa_cons (pe_fld (pv 0) rfl) pa_nil)))
      (pss_cons (ps_if (pt_cmpR (op_neD (rm64 hr)) (pe_fld (pv 0) rfl) (pe_tup pa_nil) (nomark _)) (pss_one (ps_for PassesOwn.never rfl (pi_range3 (by rfl) b.range (pa_cons (pe_fld (pv 0) rfl) (pa_cons (pv 1) (pa_cons (pe_fld (pv 0) rfl) pa_nil)))) (pg_name (i := 3) sc.nd rfl (.inr rfl)) (pss_one (ps_expr (pe_bm PySem.F.plainAttrs_list PySem.F.slot_list_extend PySem.F.type_list_extend mt_extend (pv 2) (pa_cons (pe_lc (own := [("offset", 4)]) rfl sc.nd (pi_tup (pe_fld (pv 0) rfl)) (blkOk_by (by rfl)) (fun _ _ _ _ _ => (pg_name (i := 4) sc.nd rfl (.inl rfl))) (fun _ _ _ _ _ => (pts_one (pt_cmpR op_lt (pe_op op_add (pv 3) (pv 4)) (pv 1) (nomark _)))) (fun _ _ _ _ _ => (pe_op op_add (pv 3) (pv 4)))) pa_nil)))))) pss_nil)
      (pss_one (ps_ret (pv 2)))))
theorem scPcombined : FnScope ["one", "other", "in_both", "in_one", "in_other", "length", "begin", "end", "marks", "more", "kept", "ticks", "offsets", "tick"] ["one", "other", "in_both", "in_one", "in_other"] (defScope (top 25)) := ⟨rfl, rfl, rfl, by decide +kernel, rfl, by decide +kernel, by decide +kernel⟩
theorem okPcombined {f : Addr} {fd : FuncData} (F : Fun K "combined" "combined" (top 25) f fd) (T : TyF K C) (c : Cst mg) (b : Blt mg) (R : RowC K mg C) (Fcommon_divisor : DefN P w K mg base CX0 1 "common_divisor" ["one", "other"] (spGcd)) (Fticks_before : MetN P w K mg base CX0 1 C "ticks_before" ["self", "end"] (spTicksBefore K C)) (Fnormal : DefN P w K mg base CX0 3 "normal" ["early", "begin", "length", "offsets"] (spNormal K C)) : FnOk P w K mg base CX0 4 f fd ["one", "other", "in_both", "in_one", "in_other"] (spCombined K C) := by
  refine F.ok scPcombined (fun vs H Q E h => ?_) (fun cdv A outer s H vs Q E hr h => ⟨tPcombined K C, ?_, (rdPcombined T vs H Q E h)⟩)
  · (repeat (first | (rw [h.1]; rfl) | (obtain ⟨_, h⟩ := h)))
  · have sc := scPcombined
    exact (pss_cons (ps_set (i := 5) sc.nd rfl (.inl rfl) (pe_op op_mul (pe_op op_fdiv (pe_fld (pv 0) rfl) (pe_def Fcommon_divisor (hr.mono (by decide)) pass0 (pa_cons (pe_fld (pv 0) rfl) (pa_cons (pe_fld (pv 1) rfl) pa_nil)))) (pe_fld (pv 1) rfl)))
      (pss_cons (ps_if (pt_cmpR op_gt (pv 5) (pe_gi c.MAX_LENGTH) (nomark _)) (pss_one ps_never) pss_nil)
      (pss_cons (ps_set (i := 6) sc.nd rfl (.inr rfl) (pe_ifExp (pt_cmpR op_gt (pe_fld (pv 0) rfl) (pe_fld (pv 1) rfl) (nomark _)) (pe_fld (pv 0) rfl) (pe_fld (pv 1) rfl)))
      (pss_cons (ps_set (i := 7) sc.nd rfl (.inl rfl) (pe_op op_add (pv 6) (pv 5)))
      (pss_cons (ps_set (i := 8) sc.nd rfl (.inr rfl) (pe_dc (own := [("tick", 13)]) rfl sc.nd (pi_list (pe_met R.own.cl Fticks_before (hr.mono (by decide)) pass0 (pv 0) (pa_cons (pv 7) pa_nil))) (blkOk_by (by rfl)) (fun _ _ _ _ _ => (pg_name (i := 13) sc.nd rfl (.inl rfl))) (fun _ _ _ _ _ => pts_nil) (fun _ _ _ _ _ => (pv 13)) (fun _ _ _ _ _ => pe_bl)))
      (pss_cons (ps_set (i := 9) sc.nd rfl (.inr rfl) (pe_dc (own := [("tick", 13)]) rfl sc.nd (pi_list (pe_met R.own.cl Fticks_before (hr.mono (by decide)) pass0 (pv 1) (pa_cons (pv 7) pa_nil))) (blkOk_by (by rfl)) (fun _ _ _ _ _ => (pg_name (i := 13) sc.nd rfl (.inl rfl))) (fun _ _ _ _ _ => pts_nil) (fun _ _ _ _ _ => (pv 13)) (fun _ _ _ _ _ => pe_bl)))
      (pss_cons (ps_lock (ps_setLc (i := 10) (own := [("tick", 13)]) rfl sc.nd rfl rfl (sw_true rfl rfl rfl (by decide +kernel)) (pi_keys (pv 8)) (blkOk_by (by rfl)) (fun _ _ _ _ _ => (pg_name (i := 13) sc.nd rfl (.inl rfl))) (fun _ _ _ _ _ => (pts_one (pt_ifB (pt_cmp (pc_din (rm1 hr) (pv 13) (pv 9))) (pt_val (pv 2)) (pt_val (pv 3))))) (fun _ _ _ _ _ => (pv 13))))
      (pss_cons (ps_set (i := 10) sc.nd rfl (.inl rfl) (pe_op op_cat (pv 10) (pe_lock (pe_lc (own := [("tick", 13)]) rfl sc.nd (pi_keys (pv 9)) (blkOk_by (by rfl)) (fun _ _ _ _ _ => (pg_name (i := 13) sc.nd rfl (.inl rfl))) (fun _ _ _ _ _ => (pts_one (PW.pt (pw_and (pt_val (pv 4)) (pw_and1 (pt_cmp (pc_dnotin (rm1 hr) (pv 13) (pv 8)))))))) (fun _ _ _ _ _ => (pv 13))))))
      (pss_cons (ps_set (i := 11) sc.nd rfl (.inl rfl) (pe_callB cr_sortedI (by rfl) b.sorted (by decide +kernel) (pa_cons (pe_lc (own := [("tick", 13)]) rfl sc.nd (pi_list (pv 10)) (blkOk_by (by rfl)) (fun _ _ _ _ _ => (pg_name (i := 13) sc.nd rfl (.inl rfl))) (fun _ _ _ _ _ => pts_nil) (fun _ _ _ _ _ => (pe_callTy c_int (by rfl) b.int (by decide +kernel) (pa_cons (pv 13) pa_nil)))) pa_nil)))
      (pss_cons (ps_setLc (i := 12) (own := [("tick", 13)]) rfl sc.nd rfl rfl (sw_true rfl rfl rfl (by decide +kernel)) (pi_list (pv 11)) (blkOk_by (by rfl)) (fun _ _ _ _ _ => (pg_name (i := 13) sc.nd rfl (.inl rfl))) (fun _ _ _ _ _ => (pts_one (pt_cmpR op_ge (pv 13) (pv 6) (nomark _)))) (fun _ _ _ _ _ => (pe_op op_sub (pv 13) (pv 6))))
      (pss_one (ps_ret (pe_def Fnormal (hr.mono (by decide)) pass0 (pa_cons (pe_lc (own := [("tick", 13)]) rfl sc.nd (pi_list (pv 11)) (blkOk_by (by rfl)) (fun _ _ _ _ _ => (pg_name (i := 13) sc.nd rfl (.inl rfl))) (fun _ _ _ _ _ => (pts_one (pt_cmpR op_lt (pv 13) (pv 6) (nomark _)))) (fun _ _ _ _ _ => (pv 13))) (pa_cons (pv 6) (pa_cons (pv 5) (pa_cons (pv 12) pa_nil)))))))))))))))))
theorem scRadd : FnScope ["self", "other"] ["self", "other"] (defScope (inClass (top 18) 20)) := ⟨rfl, rfl, rfl, by decide +kernel, rfl, by decide +kernel, by decide +kernel⟩
theorem okRadd {f : Addr} {fd : FuncData} (F : Fun K "__add__" "Row.__add__" (inClass (top 18) 20) f fd) (T : TyF K C) (c : Cst mg) (b : Blt mg) (R : RowC K mg C) (Fcombined : DefN P w K mg base CX0 4 "combined" ["one", "other", "in_both", "in_one", "in_other"] (spCombined K C)) : FnOk P w K mg base CX0 5 f fd ["self", "other"] (spAdd K C) := by
  refine F.ok scRadd (fun vs H Q E h => ?_) (fun cdv A outer s H vs Q E hr h => ⟨tRadd K C, ?_, (rdRadd T vs H Q E h)⟩)
  · (repeat (first | (rw [h.1]; rfl) | (obtain ⟨_, h⟩ := h)))
  · have sc := scRadd
    exact (pss_one (ps_ret (pe_def Fcombined (hr.mono (by decide)) pass0 (pa_cons (pv 0) (pa_cons (pv 1) (pa_cons pe_bl (pa_cons pe_bl (pa_cons pe_bl pa_nil))))))))
theorem scRand : FnScope ["self", "other"] ["self", "other"] (defScope (inClass (top 18) 21)) := ⟨rfl, rfl, rfl, by decide +kernel, rfl, by decide +kernel, by decide +kernel⟩
theorem okRand {f : Addr} {fd : FuncData} (F : Fun K "__and__" "Row.__and__" (inClass (top 18) 21) f fd) (T : TyF K C) (c : Cst mg) (b : Blt mg) (R : RowC K mg C) (Fcombined : DefN P w K mg base CX0 4 "combined" ["one", "other", "in_both", "in_one", "in_other"] (spCombined K C)) : FnOk P w K mg base CX0 5 f fd ["self", "other"] (spAnd K C) := by
  refine F.ok scRand (fun vs H Q E h => ?_) (fun cdv A outer s H vs Q E hr h => ⟨tRand K C, ?_, (rdRand T vs H Q E h)⟩)
  · (repeat (first | (rw [h.1]; rfl) | (obtain ⟨_, h⟩ := h)))
  · have sc := scRand
    exact (pss_one (ps_ret (pe_def Fcombined (hr.mono (by decide)) pass0 (pa_cons (pv 0) (pa_cons (pv 1) (pa_cons pe_bl (pa_cons pe_bl (pa_cons pe_bl pa_nil))))))))
theorem scRsub : FnScope ["self", "other"] ["self", "other"] (defScope (inClass (top 18) 22)) := ⟨rfl, rfl, rfl, by decide +kernel, rfl, by decide +kernel, by decide +kernel⟩
theorem okRsub {f : Addr} {fd : FuncData} (F : Fun K "__sub__" "Row.__sub__" (inClass (top 18) 22) f fd) (T : TyF K C) (c : Cst mg) (b : Blt mg) (R : RowC K mg C) (Fcombined : DefN P w K mg base CX0 4 "combined" ["one", "other", "in_both", "in_one", "in_other"] (spCombined K C)) : FnOk P w K mg base CX0 5 f fd ["self", "other"] (spSub K C) := by
  refine F.ok scRsub (fun vs H Q E h => ?_) (fun cdv A outer s H vs Q E hr h => ⟨tRsub K C, ?_, (rdRsub T vs H Q E h)⟩)
  · (repeat (first | (rw [h.1]; rfl) | (obtain ⟨_, h⟩ := h)))
  · have sc := scRsub
    exact (pss_one (ps_ret (pe_def Fcombined (hr.mono (by decide)) pass0 (pa_cons (pv 0) (pa_cons (pv 1) (pa_cons pe_bl (pa_cons pe_bl (pa_cons pe_bl pa_nil))))))))
theorem scLat : FnScope ["_law_value_here", "_law_tick"] ["_law_value_here", "_law_tick"] (defScope (top 33)) := ⟨rfl, rfl, rfl, by decide +kernel, rfl, by decide +kernel, by decide +kernel⟩
theorem okLat {f : Addr} {fd : FuncData} (F : Fun K "_law_at" "_law_at" (top 33) f fd) (T : TyF K C) (c : Cst mg) (b : Blt mg) (R : RowC K mg C)  : FnOk P w K mg base CX0 1 f fd ["_law_value_here", "_law_tick"] (spU K C upAt) := by
  have hl : ∀ ds P, upAt ds P → ds.length = 2 := by
    intro ds P h; first | (obtain ⟨rfl, _⟩ := h; rfl) | (obtain ⟨_, rfl, _⟩ := h; rfl) | (obtain ⟨_, _, rfl, _⟩ := h; rfl) | (obtain ⟨_, _, _, rfl, _⟩ := h; rfl) | (obtain ⟨_, _, _, _, rfl, _⟩ := h; rfl) | (obtain ⟨_, _, _, _, _, rfl, _⟩ := h; rfl)
  refine F.ok scLat (fun vs H Q E h => len_of_sim hl h) (fun cdv A outer s H vs Q E hr h => ⟨tULat K, ?_, rd_of_sim simLat (fun ds P h => by rw [hl ds P h]; decide) rdUat h⟩)
  · have sc := scLat
    exact (pss_one (ps_ret (pe_ifExp (pt_cmpR op_lt (pv 1) (pe_ix ix_tup (pv 0) pe_int (fun _ _ => rfl)) (nomark _)) (pv 1) (pe_op op_add (pe_ix ix_tup (pv 0) pe_int (fun _ _ => rfl)) (pe_op op_mod (pe_op op_sub (pv 1) (pe_ix ix_tup (pv 0) pe_int (fun _ _ => rfl))) (pe_ix ix_tup (pv 0) pe_int (fun _ _ => rfl)))))))
theorem scLboth : FnScope ["_law_one", "_law_other", "_law_word", "_law_length", "_law_begin", "_law_marks", "_law_found", "_law_tick", "_law_has", "_law_kept", "_law_value_here"] ["_law_one", "_law_other", "_law_word"] (defScope (top 34)) := ⟨rfl, rfl, rfl, by decide +kernel, rfl, by decide +kernel, by decide +kernel⟩
theorem okLboth {f : Addr} {fd : FuncData} (F : Fun K "_law_both" "_law_both" (top 34) f fd) (T : TyF K C) (c : Cst mg) (b : Blt mg) (R : RowC K mg C) (F_law_at : DefN P w K mg base CX0 1 "_law_at" ["_law_value_here", "_law_tick"] (spU K C upAt)) : FnOk P w K mg base CX0 2 f fd ["_law_one", "_law_other", "_law_word"] (spU K C upBoth) := by
  have hl : ∀ ds P, upBoth ds P → ds.length = 3 := by
    intro ds P h; first | (obtain ⟨rfl, _⟩ := h; rfl) | (obtain ⟨_, rfl, _⟩ := h; rfl) | (obtain ⟨_, _, rfl, _⟩ := h; rfl) | (obtain ⟨_, _, _, rfl, _⟩ := h; rfl) | (obtain ⟨_, _, _, _, rfl, _⟩ := h; rfl) | (obtain ⟨_, _, _, _, _, rfl, _⟩ := h; rfl)
  refine F.ok scLboth (fun vs H Q E h => len_of_sim hl h) (fun cdv A outer s H vs Q E hr h => ⟨tULboth K C, ?_, rd_of_sim simLboth (fun ds P h => by rw [hl ds P h]; decide) rdUboth h⟩)
  · have sc := scLboth
    exact (pss_cons (ps_par (i := 3) (j := 4) (by rfl) sc.nd rfl rfl (by decide) rfl rfl (pa_cons (pe_ix ix_tup (pv 0) pe_int (fun _ _ => rfl)) (pa_cons (pe_callB (c_max2 rfl) (by rfl) b.max (by decide +kernel) (pa_cons (pe_ix ix_tup (pv 0) pe_int (fun _ _ => rfl)) (pa_cons (pe_ix ix_tup (pv 1) pe_int (fun _ _ => rfl)) pa_nil))) pa_nil)) (by rfl))
      (pss_cons (ps_while PassesOwn.never (pt_cmpR op_gt (pe_op op_mod (pv 3) (pe_ix ix_tup (pv 1) pe_int (fun _ _ => rfl))) pe_int (nomark _)) (pss_one (ps_set (i := 3) sc.nd rfl (.inl rfl) (pe_op op_add (pv 3) (pe_ix ix_tup (pv 0) pe_int (fun _ _ => rfl))))))
      (pss_cons (ps_par (i := 5) (j := 6) (by rfl) sc.nd rfl rfl (by decide) rfl rfl (pa_cons (pe_lc (own := [("_law_value_here", 10)]) rfl sc.nd (pi_list (pe_lst (pa_cons (pv 0) (pa_cons (pv 1) pa_nil)))) (blkOk_by (by rfl)) (fun _ _ _ _ _ => (pg_name (i := 10) sc.nd rfl (.inl rfl))) (fun _ _ _ _ _ => pts_nil) (fun _ _ _ _ _ => (pe_callTy (c_dict rfl) (by rfl) b.dict (by decide +kernel) (pa_cons (pe_lc (own := [("_law_tick", 7)]) rfl sc.nd (pi_list (pe_ix ix_tup (pv 10) pe_int (fun _ _ => rfl))) (blkOk_by (by rfl)) (fun _ _ _ _ _ => (pg_name (i := 7) sc.nd rfl (.inl rfl))) (fun _ _ _ _ _ => pts_nil) (fun _ _ _ _ _ => (pe_tup (pa_cons (pv 7) (pa_cons pe_bl pa_nil))))) pa_nil)))) (pa_cons (pe_lst pa_nil) pa_nil)) (by rfl))
      (pss_cons (ps_for PassesOwn.never rfl (pi_range1 (by rfl) b.range (pa_cons (pe_op op_add (pv 4) (pv 3)) pa_nil)) (pg_name (i := 7) sc.nd rfl (.inl rfl)) (pss_cons (ps_set (i := 8) sc.nd rfl (.inl rfl) (pe_lst (pa_cons (pe_cmp (pc_din (rm1 hr) (pe_def F_law_at (hr.mono (by decide)) pass0 (pa_cons (pv 0) (pa_cons (pv 7) pa_nil))) (pe_ix ix_list (pv 5) pe_int (fun _ _ => rfl))) rfl) (pa_cons (pe_cmp (pc_din (rm1 hr) (pe_def F_law_at (hr.mono (by decide)) pass0 (pa_cons (pv 1) (pa_cons (pv 7) pa_nil))) (pe_ix ix_list (pv 5) pe_int (fun _ _ => rfl))) rfl) pa_nil))))
      (pss_cons (ps_set (i := 9) sc.nd rfl (.inl rfl) (pe_or (pe_cmpR op_eq (pv 2) pe_str (nomark _)) (pe_one (pe_and (pe_ix ix_list (pv 8) pe_int (fun _ _ => rfl)) (pe_one (pe_cmpR op_eq (pe_ix ix_list (pv 8) pe_int (fun _ _ => rfl)) (pe_cmpR op_eq (pv 2) pe_str (nomark _)) (nomark _)))))))
      (pss_one (ps_if (PW.pt (pw_and (pt_val (pv 9)) (pw_and1 (PW.pt (pw_or (pt_val (pe_ix ix_list (pv 8) pe_int (fun _ _ => rfl))) (pw_or1 (pt_val (pe_ix ix_list (pv 8) pe_int (fun _ _ => rfl))))))))) (pss_one (ps_expr (pe_bm PySem.F.plainAttrs_list PySem.F.slot_list_append PySem.F.type_list_append mt_append (pv 6) (pa_cons (pv 7) pa_nil)))) pss_nil)))))
      (pss_one (ps_ret (pe_tup (pa_cons (pv 6) (pa_cons (pv 4) (pa_cons (pv 3) pa_nil))))))))))
theorem scLsame : FnScope ["_law_value_here", "_law_known", "_law_tick", "_law_size"] ["_law_value_here", "_law_known", "_law_tick", "_law_size"] (defScope (top 35)) := ⟨rfl, rfl, rfl, by decide +kernel, rfl, by decide +kernel, by decide +kernel⟩
theorem okLsame {f : Addr} {fd : FuncData} (F : Fun K "_law_same" "_law_same" (top 35) f fd) (T : TyF K C) (c : Cst mg) (b : Blt mg) (R : RowC K mg C) (F_law_at : DefN P w K mg base CX0 1 "_law_at" ["_law_value_here", "_law_tick"] (spU K C upAt)) : FnOk P w K mg base CX0 2 f fd ["_law_value_here", "_law_known", "_law_tick", "_law_size"] (spU K C upSame) := by
  have hl : ∀ ds P, upSame ds P → ds.length = 4 := by
    intro ds P h; first | (obtain ⟨rfl, _⟩ := h; rfl) | (obtain ⟨_, rfl, _⟩ := h; rfl) | (obtain ⟨_, _, rfl, _⟩ := h; rfl) | (obtain ⟨_, _, _, rfl, _⟩ := h; rfl) | (obtain ⟨_, _, _, _, rfl, _⟩ := h; rfl) | (obtain ⟨_, _, _, _, _, rfl, _⟩ := h; rfl)
  refine F.ok scLsame (fun vs H Q E h => len_of_sim hl h) (fun cdv A outer s H vs Q E hr h => ⟨tULsame K C, ?_, rd_of_sim simLsame (fun ds P h => by rw [hl ds P h]; decide) rdUsame h⟩)
  · have sc := scLsame
    exact (pss_one (ps_ret (pe_cmpR op_eq (pe_cmp (pc_din (rm1 hr) (pe_def F_law_at (hr.mono (by decide)) pass0 (pa_cons (pv 0) (pa_cons (pv 2) pa_nil))) (pv 1)) rfl) (pe_cmp (pc_din (rm1 hr) (pe_def F_law_at (hr.mono (by decide)) pass0 (pa_cons (pv 0) (pa_cons (pe_op op_add (pv 2) (pv 3)) pa_nil))) (pv 1)) rfl) (nomark _))))
theorem scLnormal : FnScope ["_law_value_here", "_law_ticks", "_law_begin", "_law_length", "_law_late", "_law_known", "_law_marks", "_law_size", "_law_offsets", "_law_tick", "_law_one"] ["_law_value_here"] (defScope (top 36)) := ⟨rfl, rfl, rfl, by decide +kernel, rfl, by decide +kernel, by decide +kernel⟩
theorem okLnormal {f : Addr} {fd : FuncData} (F : Fun K "_law_normal" "_law_normal" (top 36) f fd) (T : TyF K C) (c : Cst mg) (b : Blt mg) (R : RowC K mg C) (F_law_same : DefN P w K mg base CX0 2 "_law_same" ["_law_value_here", "_law_known", "_law_tick", "_law_size"] (spU K C upSame)) (F_law_at : DefN P w K mg base CX0 1 "_law_at" ["_law_value_here", "_law_tick"] (spU K C upAt)) : FnOk P w K mg base CX0 3 f fd ["_law_value_here"] (spU K C upLawNormal) := by
  have hl : ∀ ds P, upLawNormal ds P → ds.length = 1 := by
    intro ds P h; first | (obtain ⟨rfl, _⟩ := h; rfl) | (obtain ⟨_, rfl, _⟩ := h; rfl) | (obtain ⟨_, _, rfl, _⟩ := h; rfl) | (obtain ⟨_, _, _, rfl, _⟩ := h; rfl) | (obtain ⟨_, _, _, _, rfl, _⟩ := h; rfl) | (obtain ⟨_, _, _, _, _, rfl, _⟩ := h; rfl)
  refine F.ok scLnormal (fun vs H Q E h => len_of_sim hl h) (fun cdv A outer s H vs Q E hr h => ⟨tULnormal K C, ?_, rd_of_sim simLnormal (fun ds P h => by rw [hl ds P h]; decide) rdUnormal h⟩)
  · have sc := scLnormal
    exact (pss_cons (ps_asg (pv 0) (pg_tup (by rfl) (pgs_cons (pg_name (i := 1) sc.nd rfl (.inl rfl)) (pgs_cons (pg_name (i := 2) sc.nd rfl (.inr rfl)) (pgs_cons (pg_name (i := 3) sc.nd rfl (.inr rfl)) pgs_nil)))))
      (pss_cons (ps_asg (pe_tup (pa_cons (pe_lc (own := [("_law_tick", 9)]) rfl sc.nd (pi_list (pv 1)) (blkOk_by (by rfl)) (fun _ _ _ _ _ => (pg_name (i := 9) sc.nd rfl (.inl rfl))) (fun _ _ _ _ _ => (pts_one (pt_cmpR op_ge (pv 9) (pv 2) (nomark _)))) (fun _ _ _ _ _ => (pe_op op_sub (pv 9) (pv 2)))) (pa_cons (pe_callTy (c_dict rfl) (by rfl) b.dict (by decide +kernel) (pa_cons (pe_lc (own := [("_law_tick", 9)]) rfl sc.nd (pi_list (pv 1)) (blkOk_by (by rfl)) (fun _ _ _ _ _ => (pg_name (i := 9) sc.nd rfl (.inl rfl))) (fun _ _ _ _ _ => pts_nil) (fun _ _ _ _ _ => (pe_tup (pa_cons (pv 9) (pa_cons pe_bl pa_nil))))) pa_nil)) pa_nil))) (pg_tup (by rfl) (pgs_cons (pg_name (i := 4) sc.nd rfl (.inl rfl)) (pgs_cons (pg_name (i := 5) sc.nd rfl (.inr rfl)) pgs_nil))))
      (pss_cons (ps_if (pt_cmpR (op_eqD (rm64 hr)) (pv 4) (pe_lst pa_nil) (nomark _)) (pss_one (ps_ret (pe_tup (pa_cons (pe_callTy c_tuple (by rfl) b.tuple (by decide +kernel) (pa_cons (pv 1) pa_nil)) (pa_cons (pe_ifExp (pt_cmpR (op_neD (rm64 hr)) (pv 1) (pe_lst pa_nil) (nomark _)) (pe_op op_add (pe_ix ix_list (pv 1) (pe_un un_neg pe_int) (fun _ _ => rfl)) pe_int) pe_int) (pa_cons pe_int (pa_cons (pe_tup pa_nil) pa_nil))))))) pss_nil)
      (pss_cons (ps_asg (pe_tup (pa_cons (pe_callTy (c_dict rfl) (by rfl) b.dict (by decide +kernel) (pa_cons (pe_lc (own := [("_law_one", 10)]) rfl sc.nd (pi_list (pv 4)) (blkOk_by (by rfl)) (fun _ _ _ _ _ => (pg_name (i := 10) sc.nd rfl (.inl rfl))) (fun _ _ _ _ _ => pts_nil) (fun _ _ _ _ _ => (pe_tup (pa_cons (pv 10) (pa_cons pe_bl pa_nil))))) pa_nil)) (pa_cons pe_int pa_nil))) (pg_tup (by rfl) (pgs_cons (pg_name (i := 6) sc.nd rfl (.inr rfl)) (pgs_cons (pg_name (i := 7) sc.nd rfl (.inr rfl)) pgs_nil))))
      (pss_cons (ps_while PassesOwn.never (PW.pt (pw_or (pt_cmpR op_gt (pe_op op_mod (pv 3) (pv 7)) pe_int (nomark _)) (pw_or1 (pt_cmpR (op_neD (rm64 hr)) (pe_lc (own := [("_law_one", 10)]) rfl sc.nd (pi_list (pv 4)) (blkOk_by (by rfl)) (fun _ _ _ _ _ => (pg_name (i := 10) sc.nd rfl (.inl rfl))) (fun _ _ _ _ _ => (pts_one (pt_cmp (pc_dnotin (rm1 hr) (pe_op op_mod (pe_op op_add (pv 10) (pv 7)) (pv 3)) (pv 6))))) (fun _ _ _ _ _ => (pv 10))) (pe_lst pa_nil) (nomark _))))) (pss_one (ps_set (i := 7) sc.nd rfl (.inr rfl) (pe_op op_add (pv 7) pe_int))))
      (pss_cons (ps_while PassesOwn.never (PW.pt (pw_and (pt_cmpR op_gt (pv 2) pe_int (nomark _)) (pw_and1 (pt_val (pe_def F_law_same (hr.mono (by decide)) pass0 (pa_cons (pv 0) (pa_cons (pv 5) (pa_cons (pe_op op_sub (pv 2) pe_int) (pa_cons (pv 7) pa_nil))))))))) (pss_one (ps_set (i := 2) sc.nd rfl (.inr rfl) (pe_op op_sub (pv 2) pe_int))))
      (pss_cons (ps_setLc (i := 8) (own := [("_law_tick", 9)]) rfl sc.nd rfl rfl (sw_true rfl rfl rfl (by decide +kernel)) (pi_range1 (by rfl) b.range (pa_cons (pv 7) pa_nil)) (blkOk_by (by rfl)) (fun _ _ _ _ _ => (pg_name (i := 9) sc.nd rfl (.inl rfl))) (fun _ _ _ _ _ => (pts_one (pt_cmp (pc_din (rm1 hr) (pe_def F_law_at (hr.mono (by decide)) pass0 (pa_cons (pv 0) (pa_cons (pe_op op_add (pv 2) (pv 9)) pa_nil))) (pv 5))))) (fun _ _ _ _ _ => (pv 9)))
      (pss_one (ps_ret (pe_tup (pa_cons (pe_callTy c_tuple (by rfl) b.tuple (by decide +kernel) (pa_cons (pe_lc (own := [("_law_tick", 9)]) rfl sc.nd (pi_list (pv 1)) (blkOk_by (by rfl)) (fun _ _ _ _ _ => (pg_name (i := 9) sc.nd rfl (.inl rfl))) (fun _ _ _ _ _ => (pts_one (pt_cmpR op_lt (pv 9) (pv 2) (nomark _)))) (fun _ _ _ _ _ => (pv 9))) pa_nil)) (pa_cons (pv 2) (pa_cons (pv 7) (pa_cons (pe_callTy c_tuple (by rfl) b.tuple (by decide +kernel) (pa_cons (pv 8) pa_nil)) pa_nil))))))))))))))
theorem scLequal : FnScope ["_law_actual", "_law_expected", "_law_k"] ["_law_actual", "_law_expected"] (defScope (top 37)) := ⟨rfl, rfl, rfl, by decide +kernel, rfl, by decide +kernel, by decide +kernel⟩
theorem okLequalZ {f : Addr} {fd : FuncData} (F : Fun K "_law_equal" "_law_equal" (top 37) f fd) (T : TyF K C) (c : Cst mg) (b : Blt mg) (R : RowC K mg C) : FnOk P w K mg base CX0 1 f fd ["_law_actual", "_law_expected"] (spU K C (upEqual0 0)) :=
  F.ok scLequal (fun vs H Q E h => by obtain ⟨_, _, _, _, _, _, h, _⟩ := h; exact h.elim) (fun cdv A outer s H vs Q E hr h => by obtain ⟨_, _, _, _, _, _, h, _⟩ := h; exact h.elim)
theorem okLequal0 {f : Addr} {fd : FuncData} (F : Fun K "_law_equal" "_law_equal" (top 37) f fd) (T : TyF K C) (c : Cst mg) (b : Blt mg) (R : RowC K mg C) (F_law_equal : DefN P w K mg base CX0 1 "_law_equal" ["_law_actual", "_law_expected"] (spU K C (upEqual0 0))) : FnOk P w K mg base CX0 2 f fd ["_law_actual", "_law_expected"] (spU K C (upEqualN 0)) := by
  have hl : ∀ ds P, upEqualN 0 ds P → ds.length = 2 := by
    intro ds P h; obtain ⟨_, _, rfl, _⟩ := h; rfl
  refine F.ok scLequal (fun vs H Q E h => len_of_sim hl h) (fun cdv A outer s H vs Q E hr h => ⟨tULequal K C (upEqual0 0), ?_, rd_of_sim simLequal (fun ds P h => by rw [hl ds P h]; decide) (rdUequal 0) h⟩)
  · have sc := scLequal
    exact (pss_cons (ps_if (pt_cmpR o_isNon (pv 1) pe_non (nomark _)) (pss_one (ps_ret (pe_cmpR o_isNon (pv 0) pe_non (nomark _)))) pss_nil)
      (pss_cons (ps_if (pt_val (pe_callB c_isi (by rfl) b.isinstance (by decide +kernel) (pa_cons (pv 1) (pa_cons (pe_bt b.bool) pa_nil)))) (pss_one (ps_ret (pe_and (pe_callB c_isi (by rfl) b.isinstance (by decide +kernel) (pa_cons (pv 0) (pa_cons (pe_bt b.bool) pa_nil))) (pe_one (pe_cmpR op_eq (pv 0) (pv 1) (nomark _)))))) pss_nil)
      (pss_cons (ps_if (pt_val (pe_callB c_isi (by rfl) b.isinstance (by decide +kernel) (pa_cons (pv 1) (pa_cons (pe_bt b.int) pa_nil)))) (pss_one (ps_ret (pe_and (pe_callB c_isi (by rfl) b.isinstance (by decide +kernel) (pa_cons (pv 0) (pa_cons (pe_bt b.int) pa_nil))) (pe_and (pe_not (pe_callB c_isi (by rfl) b.isinstance (by decide +kernel) (pa_cons (pv 0) (pa_cons (pe_bt b.bool) pa_nil)))) (pe_one (pe_cmpR op_eq (pv 0) (pv 1) (nomark _))))))) pss_nil)
      (pss_cons (ps_if (pt_val (pe_callB c_isi (by rfl) b.isinstance (by decide +kernel) (pa_cons (pv 1) (pa_cons (pe_bt b.str) pa_nil)))) (pss_one (ps_ret (pe_and (pe_callB c_isi (by rfl) b.isinstance (by decide +kernel) (pa_cons (pv 0) (pa_cons (pe_bt b.str) pa_nil))) (pe_one (pe_cmpR op_eq (pv 0) (pv 1) (nomark _)))))) pss_nil)
      (pss_cons (ps_if (pt_cmpR op_ne (pe_callB c_isi (by rfl) b.isinstance (by decide +kernel) (pa_cons (pv 1) (pa_cons (pe_bt b.tuple) pa_nil))) (pe_callB c_isi (by rfl) b.isinstance (by decide +kernel) (pa_cons (pv 0) (pa_cons (pe_bt b.tuple) pa_nil))) (nomark _)) (pss_one (ps_ret pe_bl)) pss_nil)
      (pss_cons (ps_if (pt_cmpR op_ne (pe_callB c_isi (by rfl) b.isinstance (by decide +kernel) (pa_cons (pv 1) (pa_cons (pe_bt b.list) pa_nil))) (pe_callB c_isi (by rfl) b.isinstance (by decide +kernel) (pa_cons (pv 0) (pa_cons (pe_bt b.list) pa_nil))) (nomark _)) (pss_one (ps_ret pe_bl)) pss_nil)
      (pss_cons (ps_if (pt_cmpR op_ne (pe_callB c_len (by rfl) b.len (by decide +kernel) (pa_cons (pv 0) pa_nil)) (pe_callB c_len (by rfl) b.len (by decide +kernel) (pa_cons (pv 1) pa_nil)) (nomark _)) (pss_one (ps_ret pe_bl)) pss_nil)
      (pss_one (ps_ret (pe_callB (cr_all rfl) (by rfl) b.all (by decide +kernel) (pa_cons (pe_lc (own := [("_law_k", 2)]) rfl sc.nd (pi_range1 (by rfl) b.range (pa_cons (pe_callB c_len (by rfl) b.len (by decide +kernel) (pa_cons (pv 1) pa_nil)) pa_nil)) (blkOk_by (by rfl)) (fun _ _ _ _ _ => (pg_name (i := 2) sc.nd rfl (.inl rfl))) (fun _ _ _ _ _ => pts_nil) (fun _ _ _ _ _ => (pe_def F_law_equal (hr.mono (by decide)) pass0 (pa_cons (pe_ix ix_seq (pv 0) (pv 2) (fun _ _ => rfl)) (pa_cons (pe_ix ix_seq (pv 1) (pv 2) (fun _ _ => rfl)) pa_nil))))) pa_nil)))))))))))
theorem okLequal1 {f : Addr} {fd : FuncData} (F : Fun K "_law_equal" "_law_equal" (top 37) f fd) (T : TyF K C) (c : Cst mg) (b : Blt mg) (R : RowC K mg C) (F_law_equal : DefN P w K mg base CX0 2 "_law_equal" ["_law_actual", "_law_expected"] (spU K C (upEqual0 1))) : FnOk P w K mg base CX0 3 f fd ["_law_actual", "_law_expected"] (spU K C (upEqualN 1)) := by
  have hl : ∀ ds P, upEqualN 1 ds P → ds.length = 2 := by
    intro ds P h; obtain ⟨_, _, rfl, _⟩ := h; rfl
  refine F.ok scLequal (fun vs H Q E h => len_of_sim hl h) (fun cdv A outer s H vs Q E hr h => ⟨tULequal K C (upEqual0 1), ?_, rd_of_sim simLequal (fun ds P h => by rw [hl ds P h]; decide) (rdUequal 1) h⟩)
  · have sc := scLequal
    exact (pss_cons (ps_if (pt_cmpR o_isNon (pv 1) pe_non (nomark _)) (pss_one (ps_ret (pe_cmpR o_isNon (pv 0) pe_non (nomark _)))) pss_nil)
      (pss_cons (ps_if (pt_val (pe_callB c_isi (by rfl) b.isinstance (by decide +kernel) (pa_cons (pv 1) (pa_cons (pe_bt b.bool) pa_nil)))) (pss_one (ps_ret (pe_and (pe_callB c_isi (by rfl) b.isinstance (by decide +kernel) (pa_cons (pv 0) (pa_cons (pe_bt b.bool) pa_nil))) (pe_one (pe_cmpR op_eq (pv 0) (pv 1) (nomark _)))))) pss_nil)
      (pss_cons (ps_if (pt_val (pe_callB c_isi (by rfl) b.isinstance (by decide +kernel) (pa_cons (pv 1) (pa_cons (pe_bt b.int) pa_nil)))) (pss_one (ps_ret (pe_and (pe_callB c_isi (by rfl) b.isinstance (by decide +kernel) (pa_cons (pv 0) (pa_cons (pe_bt b.int) pa_nil))) (pe_and (pe_not (pe_callB c_isi (by rfl) b.isinstance (by decide +kernel) (pa_cons (pv 0) (pa_cons (pe_bt b.bool) pa_nil)))) (pe_one (pe_cmpR op_eq (pv 0) (pv 1) (nomark _))))))) pss_nil)
      (pss_cons (ps_if (pt_val (pe_callB c_isi (by rfl) b.isinstance (by decide +kernel) (pa_cons (pv 1) (pa_cons (pe_bt b.str) pa_nil)))) (pss_one (ps_ret (pe_and (pe_callB c_isi (by rfl) b.isinstance (by decide +kernel) (pa_cons (pv 0) (pa_cons (pe_bt b.str) pa_nil))) (pe_one (pe_cmpR op_eq (pv 0) (pv 1) (nomark _)))))) pss_nil)
      (pss_cons (ps_if (pt_cmpR op_ne (pe_callB c_isi (by rfl) b.isinstance (by decide +kernel) (pa_cons (pv 1) (pa_cons (pe_bt b.tuple) pa_nil))) (pe_callB c_isi (by rfl) b.isinstance (by decide +kernel) (pa_cons (pv 0) (pa_cons (pe_bt b.tuple) pa_nil))) (nomark _)) (pss_one (ps_ret pe_bl)) pss_nil)
      (pss_cons (ps_if (pt_cmpR op_ne (pe_callB c_isi (by rfl) b.isinstance (by decide +kernel) (pa_cons (pv 1) (pa_cons (pe_bt b.list) pa_nil))) (pe_callB c_isi (by rfl) b.isinstance (by decide +kernel) (pa_cons (pv 0) (pa_cons (pe_bt b.list) pa_nil))) (nomark _)) (pss_one (ps_ret pe_bl)) pss_nil)
      (pss_cons (ps_if (pt_cmpR op_ne (pe_callB c_len (by rfl) b.len (by decide +kernel) (pa_cons (pv 0) pa_nil)) (pe_callB c_len (by rfl) b.len (by decide +kernel) (pa_cons (pv 1) pa_nil)) (nomark _)) (pss_one (ps_ret pe_bl)) pss_nil)
      (pss_one (ps_ret (pe_callB (cr_all rfl) (by rfl) b.all (by decide +kernel) (pa_cons (pe_lc (own := [("_law_k", 2)]) rfl sc.nd (pi_range1 (by rfl) b.range (pa_cons (pe_callB c_len (by rfl) b.len (by decide +kernel) (pa_cons (pv 1) pa_nil)) pa_nil)) (blkOk_by (by rfl)) (fun _ _ _ _ _ => (pg_name (i := 2) sc.nd rfl (.inl rfl))) (fun _ _ _ _ _ => pts_nil) (fun _ _ _ _ _ => (pe_def F_law_equal (hr.mono (by decide)) pass0 (pa_cons (pe_ix ix_seq (pv 0) (pv 2) (fun _ _ => rfl)) (pa_cons (pe_ix ix_seq (pv 1) (pv 2) (fun _ _ => rfl)) pa_nil))))) pa_nil)))))))))))
theorem okLequal2 {f : Addr} {fd : FuncData} (F : Fun K "_law_equal" "_law_equal" (top 37) f fd) (T : TyF K C) (c : Cst mg) (b : Blt mg) (R : RowC K mg C) (F_law_equal : DefN P w K mg base CX0 3 "_law_equal" ["_law_actual", "_law_expected"] (spU K C (upEqual0 2))) : FnOk P w K mg base CX0 4 f fd ["_law_actual", "_law_expected"] (spU K C (upEqualN 2)) := by
  have hl : ∀ ds P, upEqualN 2 ds P → ds.length = 2 := by
    intro ds P h; obtain ⟨_, _, rfl, _⟩ := h; rfl
  refine F.ok scLequal (fun vs H Q E h => len_of_sim hl h) (fun cdv A outer s H vs Q E hr h => ⟨tULequal K C (upEqual0 2), ?_, rd_of_sim simLequal (fun ds P h => by rw [hl ds P h]; decide) (rdUequal 2) h⟩)
  · have sc := scLequal
    exact (pss_cons (ps_if (pt_cmpR o_isNon (pv 1) pe_non (nomark _)) (pss_one (ps_ret (pe_cmpR o_isNon (pv 0) pe_non (nomark _)))) pss_nil)
      (pss_cons (ps_if (pt_val (pe_callB c_isi (by rfl) b.isinstance (by decide +kernel) (pa_cons (pv 1) (pa_cons (pe_bt b.bool) pa_nil)))) (pss_one (ps_ret (pe_and (pe_callB c_isi (by rfl) b.isinstance (by decide +kernel) (pa_cons (pv 0) (pa_cons (pe_bt b.bool) pa_nil))) (pe_one (pe_cmpR op_eq (pv 0) (pv 1) (nomark _)))))) pss_nil)
      (pss_cons (ps_if (pt_val (pe_callB c_isi (by rfl) b.isinstance (by decide +kernel) (pa_cons (pv 1) (pa_cons (pe_bt b.int) pa_nil)))) (pss_one (ps_ret (pe_and (pe_callB c_isi (by rfl) b.isinstance (by decide +kernel) (pa_cons (pv 0) (pa_cons (pe_bt b.int) pa_nil))) (pe_and (pe_not (pe_callB c_isi (by rfl) b.isinstance (by decide +kernel) (pa_cons (pv 0) (pa_cons (pe_bt b.bool) pa_nil)))) (pe_one (pe_cmpR op_eq (pv 0) (pv 1) (nomark _))))))) pss_nil)
      (pss_cons (ps_if (pt_val (pe_callB c_isi (by rfl) b.isinstance (by decide +kernel) (pa_cons (pv 1) (pa_cons (pe_bt b.str) pa_nil)))) (pss_one (ps_ret (pe_and (pe_callB c_isi (by rfl) b.isinstance (by decide +kernel) (pa_cons (pv 0) (pa_cons (pe_bt b.str) pa_nil))) (pe_one (pe_cmpR op_eq (pv 0) (pv 1) (nomark _)))))) pss_nil)
      (pss_cons (ps_if (pt_cmpR op_ne (pe_callB c_isi (by rfl) b.isinstance (by decide +kernel) (pa_cons (pv 1) (pa_cons (pe_bt b.tuple) pa_nil))) (pe_callB c_isi (by rfl) b.isinstance (by decide +kernel) (pa_cons (pv 0) (pa_cons (pe_bt b.tuple) pa_nil))) (nomark _)) (pss_one (ps_ret pe_bl)) pss_nil)
      (pss_cons (ps_if (pt_cmpR op_ne (pe_callB c_isi (by rfl) b.isinstance (by decide +kernel) (pa_cons (pv 1) (pa_cons (pe_bt b.list) pa_nil))) (pe_callB c_isi (by rfl) b.isinstance (by decide +kernel) (pa_cons (pv 0) (pa_cons (pe_bt b.list) pa_nil))) (nomark _)) (pss_one (ps_ret pe_bl)) pss_nil)
      (pss_cons (ps_if (pt_cmpR op_ne (pe_callB c_len (by rfl) b.len (by decide +kernel) (pa_cons (pv 0) pa_nil)) (pe_callB c_len (by rfl) b.len (by decide +kernel) (pa_cons (pv 1) pa_nil)) (nomark _)) (pss_one (ps_ret pe_bl)) pss_nil)
      (pss_one (ps_ret (pe_callB (cr_all rfl) (by rfl) b.all (by decide +kernel) (pa_cons (pe_lc (own := [("_law_k", 2)]) rfl sc.nd (pi_range1 (by rfl) b.range (pa_cons (pe_callB c_len (by rfl) b.len (by decide +kernel) (pa_cons (pv 1) pa_nil)) pa_nil)) (blkOk_by (by rfl)) (fun _ _ _ _ _ => (pg_name (i := 2) sc.nd rfl (.inl rfl))) (fun _ _ _ _ _ => pts_nil) (fun _ _ _ _ _ => (pe_def F_law_equal (hr.mono (by decide)) pass0 (pa_cons (pe_ix ix_seq (pv 0) (pv 2) (fun _ _ => rfl)) (pa_cons (pe_ix ix_seq (pv 1) (pv 2) (fun _ _ => rfl)) pa_nil))))) pa_nil)))))))))))
theorem okLequal3 {f : Addr} {fd : FuncData} (F : Fun K "_law_equal" "_law_equal" (top 37) f fd) (T : TyF K C) (c : Cst mg) (b : Blt mg) (R : RowC K mg C) (F_law_equal : DefN P w K mg base CX0 4 "_law_equal" ["_law_actual", "_law_expected"] (spU K C (upEqual0 3))) : FnOk P w K mg base CX0 5 f fd ["_law_actual", "_law_expected"] (spU K C (upEqualN 3)) := by
  have hl : ∀ ds P, upEqualN 3 ds P → ds.length = 2 := by
    intro ds P h; obtain ⟨_, _, rfl, _⟩ := h; rfl
  refine F.ok scLequal (fun vs H Q E h => len_of_sim hl h) (fun cdv A outer s H vs Q E hr h => ⟨tULequal K C (upEqual0 3), ?_, rd_of_sim simLequal (fun ds P h => by rw [hl ds P h]; decide) (rdUequal 3) h⟩)
  · have sc := scLequal
    exact (pss_cons (ps_if (pt_cmpR o_isNon (pv 1) pe_non (nomark _)) (pss_one (ps_ret (pe_cmpR o_isNon (pv 0) pe_non (nomark _)))) pss_nil)
      (pss_cons (ps_if (pt_val (pe_callB c_isi (by rfl) b.isinstance (by decide +kernel) (pa_cons (pv 1) (pa_cons (pe_bt b.bool) pa_nil)))) (pss_one (ps_ret (pe_and (pe_callB c_isi (by rfl) b.isinstance (by decide +kernel) (pa_cons (pv 0) (pa_cons (pe_bt b.bool) pa_nil))) (pe_one (pe_cmpR op_eq (pv 0) (pv 1) (nomark _)))))) pss_nil)
      (pss_cons (ps_if (pt_val (pe_callB c_isi (by rfl) b.isinstance (by decide +kernel) (pa_cons (pv 1) (pa_cons (pe_bt b.int) pa_nil)))) (pss_one (ps_ret (pe_and (pe_callB c_isi (by rfl) b.isinstance (by decide +kernel) (pa_cons (pv 0) (pa_cons (pe_bt b.int) pa_nil))) (pe_and (pe_not (pe_callB c_isi (by rfl) b.isinstance (by decide +kernel) (pa_cons (pv 0) (pa_cons (pe_bt b.bool) pa_nil)))) (pe_one (pe_cmpR op_eq (pv 0) (pv 1) (nomark _))))))) pss_nil)
      (pss_cons (ps_if (pt_val (pe_callB c_isi (by rfl) b.isinstance (by decide +kernel) (pa_cons (pv 1) (pa_cons (pe_bt b.str) pa_nil)))) (pss_one (ps_ret (pe_and (pe_callB c_isi (by rfl) b.isinstance (by decide +kernel) (pa_cons (pv 0) (pa_cons (pe_bt b.str) pa_nil))) (pe_one (pe_cmpR op_eq (pv 0) (pv 1) (nomark _)))))) pss_nil)
      (pss_cons (ps_if (pt_cmpR op_ne (pe_callB c_isi (by rfl) b.isinstance (by decide +kernel) (pa_cons (pv 1) (pa_cons (pe_bt b.tuple) pa_nil))) (pe_callB c_isi (by rfl) b.isinstance (by decide +kernel) (pa_cons (pv 0) (pa_cons (pe_bt b.tuple) pa_nil))) (nomark _)) (pss_one (ps_ret pe_bl)) pss_nil)
      (pss_cons (ps_if (pt_cmpR op_ne (pe_callB c_isi (by rfl) b.isinstance (by decide +kernel) (pa_cons (pv 1) (pa_cons (pe_bt b.list) pa_nil))) (pe_callB c_isi (by rfl) b.isinstance (by decide +kernel) (pa_cons (pv 0) (pa_cons (pe_bt b.list) pa_nil))) (nomark _)) (pss_one (ps_ret pe_bl)) pss_nil)
      (pss_cons (ps_if (pt_cmpR op_ne (pe_callB c_len (by rfl) b.len (by decide +kernel) (pa_cons (pv 0) pa_nil)) (pe_callB c_len (by rfl) b.len (by decide +kernel) (pa_cons (pv 1) pa_nil)) (nomark _)) (pss_one (ps_ret pe_bl)) pss_nil)
      (pss_one (ps_ret (pe_callB (cr_all rfl) (by rfl) b.all (by decide +kernel) (pa_cons (pe_lc (own := [("_law_k", 2)]) rfl sc.nd (pi_range1 (by rfl) b.range (pa_cons (pe_callB c_len (by rfl) b.len (by decide +kernel) (pa_cons (pv 1) pa_nil)) pa_nil)) (blkOk_by (by rfl)) (fun _ _ _ _ _ => (pg_name (i := 2) sc.nd rfl (.inl rfl))) (fun _ _ _ _ _ => pts_nil) (fun _ _ _ _ _ => (pe_def F_law_equal (hr.mono (by decide)) pass0 (pa_cons (pe_ix ix_seq (pv 0) (pv 2) (fun _ _ => rfl)) (pa_cons (pe_ix ix_seq (pv 1) (pv 2) (fun _ _ => rfl)) pa_nil))))) pa_nil)))))))))))
theorem scRfirst_laps : FnScope ["self", "ticks", "place"] ["self"] (defScope (inClass (top 18) 9)) := ⟨rfl, rfl, rfl, by decide +kernel, rfl, by decide +kernel, by decide +kernel⟩
theorem okRfirst_laps {f : Addr} {fd : FuncData} (F : Fun K "first_laps" "Row.first_laps" (inClass (top 18) 9) f fd) (T : TyF K C) (c : Cst mg) (b : Blt mg) (R : RowC K mg C)  : FnOk P w K mg base CX0 1 f fd ["self"] (spFlaps K C) := by
  refine F.ok scRfirst_laps (fun vs H Q E h => ?_) (fun cdv A outer s H vs Q E hr h => ⟨tRfirst_laps K, ?_, (rdRfirst_laps T vs H Q E h)⟩)
  · (repeat (first | (rw [h.1]; rfl) | (obtain ⟨_, h⟩ := h)))
  · have sc := scRfirst_laps
    exact (pss_cons (ps_set (i := 1) sc.nd rfl (.inr rfl) (pe_callTy c_list (by rfl) b.list (by decide +kernel) (pa_cons (pe_fld (pv 0) rfl) pa_nil)))
      (pss_cons (ps_if (pt_cmpR (op_neD (rm64 hr)) (pe_fld (pv 0) rfl) (pe_tup pa_nil) (nomark _)) (pss_one (ps_expr (pe_bm PySem.F.plainAttrs_list PySem.F.slot_list_append PySem.F.type_list_append mt_append (pv 1) (pa_cons (pe_op op_add (pe_fld (pv 0) rfl) (pe_ix ix_tup (pe_fld (pv 0) rfl) pe_int (fun _ _ => rfl))) pa_nil)))) pss_nil)
      (pss_one (ps_ret (pe_callTy c_tuple (by rfl) b.tuple (by decide +kernel) (pa_cons (pe_lc (own := [("place", 2)]) rfl sc.nd (pi_range1 (by rfl) b.range (pa_cons (pe_op op_sub (pe_callB c_len (by rfl) b.len (by decide +kernel) (pa_cons (pv 1) pa_nil)) pe_int) pa_nil)) (blkOk_by (by rfl)) (fun _ _ _ _ _ => (pg_name (i := 2) sc.nd rfl (.inl rfl))) (fun _ _ _ _ _ => pts_nil) (fun _ _ _ _ _ => (pe_op op_sub (pe_ix ix_list (pv 1) (pe_op op_add (pv 2) pe_int) (fun _ _ => rfl)) (pe_ix ix_list (pv 1) (pv 2) (fun _ _ => rfl))))) pa_nil))))))
theorem scRlaps : FnScope ["self", "found", "place", "offset", "is_last"] ["self"] (defScope (inClass (top 18) 8)) := ⟨rfl, rfl, rfl, by decide +kernel, rfl, by decide +kernel, by decide +kernel⟩
theorem okRlaps {f : Addr} {fd : FuncData} (F : Fun K "laps" "Row.laps" (inClass (top 18) 8) f fd) (T : TyF K C) (c : Cst mg) (b : Blt mg) (R : RowC K mg C)  : FnOk P w K mg base CX0 1 f fd ["self"] (spLaps K C) := by
  refine F.ok scRlaps (fun vs H Q E h => ?_) (fun cdv A outer s H vs Q E hr h => ⟨tRlaps K, ?_, (rdRlaps T vs H Q E h)⟩)
  · (repeat (first | (rw [h.1]; rfl) | (obtain ⟨_, h⟩ := h)))
  · have sc := scRlaps
    exact (pss_cons (ps_set (i := 1) sc.nd rfl (.inl rfl) (pe_lst pa_nil))
      (pss_cons (ps_for PassesOwn.never rfl (pi_enumA b.enumerate (pa_cons (pe_fld (pv 0) rfl) pa_nil)) (pg_tup (by rfl) (pgs_cons (pg_name (i := 2) sc.nd rfl (.inl rfl)) (pgs_cons (pg_name (i := 3) sc.nd rfl (.inl rfl)) pgs_nil))) (pss_cons (ps_set (i := 4) sc.nd rfl (.inl rfl) (pe_cmpR op_eq (pe_op op_add (pv 2) pe_int) (pe_callB c_len (by rfl) b.len (by decide +kernel) (pa_cons (pe_fld (pv 0) rfl) pa_nil)) (nomark _)))
      (pss_one (ps_expr (pe_bm PySem.F.plainAttrs_list PySem.F.slot_list_append PySem.F.type_list_append mt_append (pv 1) (pa_cons (pe_op op_sub (pe_ifExp (pt_val (pv 4)) (pe_op op_add (pe_ix ix_tup (pe_fld (pv 0) rfl) pe_int (fun _ _ => rfl)) (pe_fld (pv 0) rfl)) (pe_ix ix_tup (pe_fld (pv 0) rfl) (pe_op op_add (pv 2) pe_int) (fun _ _ => rfl))) (pv 3)) pa_nil))))))
      (pss_one (ps_ret (pe_callTy c_tuple (by rfl) b.tuple (by decide +kernel) (pa_cons (pv 1) pa_nil))))))
theorem scRtext : FnScope ["self", "start", "text", "lap"] ["self"] (defScope (inClass (top 18) 10)) := ⟨rfl, rfl, rfl, by decide +kernel, rfl, by decide +kernel, by decide +kernel⟩
theorem okRtext {f : Addr} {fd : FuncData} (F : Fun K "text" "Row.text" (inClass (top 18) 10) f fd) (T : TyF K C) (c : Cst mg) (b : Blt mg) (R : RowC K mg C) (Ffirst_laps : PropN P w K mg base CX0 1 C "first_laps" (spFlaps K C)) (Flaps : PropN P w K mg base CX0 1 C "laps" (spLaps K C)) : FnOk P w K mg base CX0 3 f fd ["self"] (spText K C) := by
  refine F.ok scRtext (fun vs H Q E h => ?_) (fun cdv A outer s H vs Q E hr h => ⟨tRtext K C, ?_, (rdRtext T vs H Q E h)⟩)
  · (repeat (first | (rw [h.1]; rfl) | (obtain ⟨_, h⟩ := h)))
  · have sc := scRtext
    exact (pss_cons (ps_if (pt_cmpR op_eq (pe_op op_add (pe_callB c_len (by rfl) b.len (by decide +kernel) (pa_cons (pe_fld (pv 0) rfl) pa_nil)) (pe_callB c_len (by rfl) b.len (by decide +kernel) (pa_cons (pe_fld (pv 0) rfl) pa_nil))) pe_int (nomark _)) (pss_one (ps_ret (pe_gs c.NEVER))) pss_nil)
      (pss_cons (ps_set (i := 1) sc.nd rfl (.inl rfl) (pe_ifExp (pt_cmpR op_gt (pe_callB c_len (by rfl) b.len (by decide +kernel) (pa_cons (pe_fld (pv 0) rfl) pa_nil)) pe_int (nomark _)) (pe_ix ix_tup (pe_fld (pv 0) rfl) pe_int (fun _ _ => rfl)) (pe_op op_add (pe_fld (pv 0) rfl) (pe_ix ix_tup (pe_fld (pv 0) rfl) pe_int (fun _ _ => rfl)))))
      (pss_cons (ps_set (i := 2) sc.nd rfl (.inl rfl) (pe_joined1 (pe_fmt (pv 1))))
      (pss_cons (ps_for PassesOwn.never rfl (pi_tup (pe_prp R.own.cl Ffirst_laps (hr.mono (by decide)) pass0 (pv 0))) (pg_name (i := 3) sc.nd rfl (.inl rfl)) (pss_one (ps_set (i := 2) sc.nd rfl (.inl rfl) (pe_join (.cons (pe_fmt (pv 2)) (.cons pe_str (.cons (pe_fmt (pv 3)) .nil)))))))
      (pss_cons (ps_if (pt_cmpR op_gt (pe_callB c_len (by rfl) b.len (by decide +kernel) (pa_cons (pe_fld (pv 0) rfl) pa_nil)) pe_int (nomark _)) (pss_cons (ps_set (i := 2) sc.nd rfl (.inl rfl) (pe_join (.cons (pe_fmt (pv 2)) (.cons pe_str .nil))))
      (pss_one (ps_for PassesOwn.never rfl (pi_tup (pe_prp R.own.cl Flaps (hr.mono (by decide)) pass0 (pv 0))) (pg_name (i := 3) sc.nd rfl (.inl rfl)) (pss_one (ps_set (i := 2) sc.nd rfl (.inl rfl) (pe_join (.cons (pe_fmt (pv 2)) (.cons pe_str (.cons (pe_fmt (pv 3)) .nil))))))))) pss_nil)
      (pss_one (ps_ret (pv 2))))))))
theorem scRrepetition : FnScope ["self"] ["self"] (defScope (inClass (top 18) 7)) := ⟨rfl, rfl, rfl, by decide +kernel, rfl, by decide +kernel, by decide +kernel⟩
theorem okRrepetition {f : Addr} {fd : FuncData} (F : Fun K "repetition" "Row.repetition" (inClass (top 18) 7) f fd) (T : TyF K C) (c : Cst mg) (b : Blt mg) (R : RowC K mg C)  : FnOk P w K mg base CX0 1 f fd ["self"] (spRep K C) := by
  refine F.ok scRrepetition (fun vs H Q E h => ?_) (fun cdv A outer s H vs Q E hr h => ⟨tRrepetition K, ?_, (rdRrepetition T vs H Q E h)⟩)
  · (repeat (first | (rw [h.1]; rfl) | (obtain ⟨_, h⟩ := h)))
  · have sc := scRrepetition
    exact (pss_one (ps_ret (pe_tup (pa_cons (pe_fld (pv 0) rfl) (pa_cons (pe_fld (pv 0) rfl) (pa_cons (pe_callB c_len (by rfl) b.len (by decide +kernel) (pa_cons (pe_fld (pv 0) rfl) pa_nil)) pa_nil))))))
theorem scLtext : FnScope ["_law_value_here", "_law_early", "_law_begin", "_law_length", "_law_offsets", "_law_ticks", "_law_words", "_law_ends", "_law_offset", "_law_k"] ["_law_value_here"] (defScope (top 38)) := ⟨rfl, rfl, rfl, by decide +kernel, rfl, by decide +kernel, by decide +kernel⟩
theorem okLtext {f : Addr} {fd : FuncData} (F : Fun K "_law_text" "_law_text" (top 38) f fd) (T : TyF K C) (c : Cst mg) (b : Blt mg) (R : RowC K mg C) (F_law_normal : DefN P w K mg base CX0 3 "_law_normal" ["_law_value_here"] (spU K C upLawNormal)) : FnOk P w K mg base CX0 4 f fd ["_law_value_here"] (spU K C upLawText) := by
  have hl : ∀ ds P, upLawText ds P → ds.length = 1 := by
    intro ds P h; first | (obtain ⟨rfl, _⟩ := h; rfl) | (obtain ⟨_, rfl, _⟩ := h; rfl) | (obtain ⟨_, _, rfl, _⟩ := h; rfl) | (obtain ⟨_, _, _, rfl, _⟩ := h; rfl) | (obtain ⟨_, _, _, _, rfl, _⟩ := h; rfl) | (obtain ⟨_, _, _, _, _, rfl, _⟩ := h; rfl)
  refine F.ok scLtext (fun vs H Q E h => len_of_sim hl h) (fun cdv A outer s H vs Q E hr h => ⟨tULtext K C, ?_, rd_of_sim simLtext (fun ds P h => by rw [hl ds P h]; decide) rdUtext h⟩)
  · have sc := scLtext
    exact (pss_cons (ps_asg (pe_def F_law_normal (hr.mono (by decide)) pass0 (pa_cons (pv 0) pa_nil)) (pg_tup (by rfl) (pgs_cons (pg_name (i := 1) sc.nd rfl (.inl rfl)) (pgs_cons (pg_name (i := 2) sc.nd rfl (.inr rfl)) (pgs_cons (pg_name (i := 3) sc.nd rfl (.inl rfl)) (pgs_cons (pg_name (i := 4) sc.nd rfl (.inr rfl)) pgs_nil))))))
      (pss_cons (ps_set (i := 5) sc.nd rfl (.inr rfl) (pe_op op_cat (pe_callTy c_list (by rfl) b.list (by decide +kernel) (pa_cons (pv 1) pa_nil)) (pe_lc (own := [("_law_offset", 8)]) rfl sc.nd (pi_tup (pe_slice sl_tupA (pv 4) po_none (po_some pe_int))) (blkOk_by (by rfl)) (fun _ _ _ _ _ => (pg_name (i := 8) sc.nd rfl (.inl rfl))) (fun _ _ _ _ _ => pts_nil) (fun _ _ _ _ _ => (pe_op op_add (pv 2) (pv 8))))))
      (pss_cons (ps_if (pt_cmpR (op_eqD (rm64 hr)) (pv 5) (pe_lst pa_nil) (nomark _)) (pss_one (ps_ret pe_str)) pss_nil)
      (pss_cons (ps_set (i := 6) sc.nd rfl (.inl rfl) (pe_op op_cat (pe_lst (pa_cons (pe_callTy c_str (by rfl) b.str (by decide +kernel) (pa_cons (pe_ix ix_list (pv 5) pe_int (fun _ _ => rfl)) pa_nil)) pa_nil)) (pe_lc (own := [("_law_k", 9)]) rfl sc.nd (pi_range1 (by rfl) b.range (pa_cons (pe_op op_sub (pe_callB c_len (by rfl) b.len (by decide +kernel) (pa_cons (pv 5) pa_nil)) pe_int) pa_nil)) (blkOk_by (by rfl)) (fun _ _ _ _ _ => (pg_name (i := 9) sc.nd rfl (.inl rfl))) (fun _ _ _ _ _ => pts_nil) (fun _ _ _ _ _ => (pe_callTy c_str (by rfl) b.str (by decide +kernel) (pa_cons (pe_op op_sub (pe_ix ix_list (pv 5) (pe_op op_add (pv 9) pe_int) (fun _ _ => rfl)) (pe_ix ix_list (pv 5) (pv 9) (fun _ _ => rfl))) pa_nil))))))
      (pss_cons (ps_if (pt_cmpR (op_eqD (rm64 hr)) (pv 4) (pe_tup pa_nil) (nomark _)) (pss_one (ps_ret (pe_bm PySem.F.plainAttrs_str PySem.F.slot_str_join PySem.F.type_str_join m_join pe_str (pa_cons (pv 6) pa_nil)))) pss_nil)
      (pss_cons (ps_set (i := 7) sc.nd rfl (.inr rfl) (pe_op op_cat (pe_callTy c_list (by rfl) b.list (by decide +kernel) (pa_cons (pe_slice sl_tupA (pv 4) (po_some pe_int) po_none) pa_nil)) (pe_lst (pa_cons (pe_op op_add (pe_ix ix_tup (pv 4) pe_int (fun _ _ => rfl)) (pv 3)) pa_nil))))
      (pss_one (ps_ret (pe_bm PySem.F.plainAttrs_str PySem.F.slot_str_join PySem.F.type_str_join m_join pe_str (pa_cons (pe_op op_cat (pe_op op_cat (pv 6) (pe_lst (pa_cons pe_str pa_nil))) (pe_lc (own := [("_law_k", 9)]) rfl sc.nd (pi_range1 (by rfl) b.range (pa_cons (pe_callB c_len (by rfl) b.len (by decide +kernel) (pa_cons (pv 4) pa_nil)) pa_nil)) (blkOk_by (by rfl)) (fun _ _ _ _ _ => (pg_name (i := 9) sc.nd rfl (.inl rfl))) (fun _ _ _ _ _ => pts_nil) (fun _ _ _ _ _ => (pe_callTy c_str (by rfl) b.str (by decide +kernel) (pa_cons (pe_op op_sub (pe_ix ix_list (pv 7) (pv 9) (fun _ _ => rfl)) (pe_ix ix_tup (pv 4) (pv 9) (fun _ _ => rfl))) pa_nil))))) pa_nil))))))))))
theorem scRbool : FnScope ["self"] ["self"] (defScope (inClass (top 18) 17)) := ⟨rfl, rfl, rfl, by decide +kernel, rfl, by decide +kernel, by decide +kernel⟩
theorem okRbool {f : Addr} {fd : FuncData} (F : Fun K "__bool__" "Row.__bool__" (inClass (top 18) 17) f fd) (T : TyF K C) (c : Cst mg) (b : Blt mg) (R : RowC K mg C)  : FnOk P w K mg base CX0 1 f fd ["self"] (spBool K C) := by
  refine F.ok scRbool (fun vs H Q E h => ?_) (fun cdv A outer s H vs Q E hr h => ⟨tRbool K, ?_, (rdRbool T vs H Q E h)⟩)
  · (repeat (first | (rw [h.1]; rfl) | (obtain ⟨_, h⟩ := h)))
  · have sc := scRbool
    exact (pss_one (ps_ret (pe_cmpR op_gt (pe_op op_add (pe_callB c_len (by rfl) b.len (by decide +kernel) (pa_cons (pe_fld (pv 0) rfl) pa_nil)) (pe_callB c_len (by rfl) b.len (by decide +kernel) (pa_cons (pe_fld (pv 0) rfl) pa_nil))) pe_int (nomark _))))
theorem scRis_endless : FnScope ["self"] ["self"] (defScope (inClass (top 18) 6)) := ⟨rfl, rfl, rfl, by decide +kernel, rfl, by decide +kernel, by decide +kernel⟩
theorem okRis_endless {f : Addr} {fd : FuncData} (F : Fun K "is_endless" "Row.is_endless" (inClass (top 18) 6) f fd) (T : TyF K C) (c : Cst mg) (b : Blt mg) (R : RowC K mg C)  : FnOk P w K mg base CX0 1 f fd ["self"] (spEndless K C) := by
  refine F.ok scRis_endless (fun vs H Q E h => ?_) (fun cdv A outer s H vs Q E hr h => ⟨tRis_endless K, ?_, (rdRis_endless T vs H Q E h)⟩)
  · (repeat (first | (rw [h.1]; rfl) | (obtain ⟨_, h⟩ := h)))
  · have sc := scRis_endless
    exact (pss_one (ps_ret (pe_cmpR (op_neD (rm64 hr)) (pe_fld (pv 0) rfl) (pe_tup pa_nil) (nomark _))))
theorem scPlaw : FnScope ["_law_script", "_law_d", "_law_step", "_law_plans", "_law_values", "_law_rows", "_law_word", "_law_found", "_law_value_here", "_law_early", "_law_begin", "_law_length", "_law_offsets", "_law_third", "_law_other", "_law_k", "_law_plan_here"] ["_law_script"] (defScope (top 39)) := ⟨rfl, rfl, rfl, by decide +kernel, rfl, by decide +kernel, by decide +kernel⟩
theorem okPlaw {f : Addr} {fd : FuncData} (F : Fun K "law" "law" (top 39) f fd) (T : TyF K C) (c : Cst mg) (b : Blt mg) (R : RowC K mg C) (F_law_random : DefN P w K mg base CX0 1 "_law_random" ["_law_script", "_law_salt"] (spRandom K)) (F_law_plan : DefN P w K mg base CX0 3 "_law_plan" ["_law_d", "_law_most"] (spU K C upPlan)) (F_law_value : DefN P w K mg base CX0 1 "_law_value" ["_law_plan_here"] (spU K C upValue)) (F_law_row : DefN P w K mg base CX0 8 "_law_row" ["_law_plan_here"] (spU K C upLawRow)) (Fadd : MetN P w K mg base CX0 5 C "__add__" ["self", "other"] (spU K C upAdd)) (Fand : MetN P w K mg base CX0 5 C "__and__" ["self", "other"] (spU K C upAnd)) (Fsub : MetN P w K mg base CX0 5 C "__sub__" ["self", "other"] (spU K C upSub)) (F_law_both : DefN P w K mg base CX0 2 "_law_both" ["_law_one", "_law_other", "_law_word"] (spU K C upBoth)) (F_law_normal : DefN P w K mg base CX0 3 "_law_normal" ["_law_value_here"] (spU K C upLawNormal)) (F_law_equal : DefN P w K mg base CX0 5 "_law_equal" ["_law_actual", "_law_expected"] (spU K C upEqual)) (Ftext : PropN P w K mg base CX0 3 C "text" (spU K C upText)) (Frepetition : PropN P w K mg base CX0 1 C "repetition" (spU K C upRep)) (F_law_text : DefN P w K mg base CX0 4 "_law_text" ["_law_value_here"] (spU K C upLawText)) (Fbool : MetN P w K mg base CX0 1 C "__bool__" ["self"] (spU K C upBool)) (Fis_endless : PropN P w K mg base CX0 1 C "is_endless" (spU K C upEndless)) (Fparse : CmN P w K mg base CX0 6 C "parse" (spU K C upParse)) : FnOk P w K mg base CX0 9 f fd ["_law_script"] (spLaw K) := by
  refine F.ok scPlaw (fun vs H Q E h => ?_) (fun cdv A outer s H vs Q E hr h => ⟨tUPlaw K C, ?_, law_rest (n := 15) simPlawR 3 ⟨by decide, by decide⟩ lw03 h (by rfl)⟩)
  · obtain ⟨_, _, rfl, _⟩ := h; rfl
  · have sc := scPlaw
    exact (pss_cons (ps_set (i := 1) sc.nd rfl (.inr rfl) (pe_def F_law_random (hr.mono (by decide)) pass0 (pa_cons (pv 0) (pa_cons pe_int pa_nil))))
      (pss_cons (ps_for PassesOwn.never rfl (pi_range1 (by rfl) b.range (pa_cons pe_int pa_nil)) (pg_name (i := 2) sc.nd rfl (.inl rfl)) (pss_cons (ps_setLc (i := 3) (own := [("_law_k", 15)]) rfl sc.nd rfl rfl (sw_true rfl rfl rfl (by decide +kernel)) (pi_range1 (by rfl) b.range (pa_cons pe_int pa_nil)) (blkOk_by (by rfl)) (fun _ _ _ _ _ => (pg_name (i := 15) sc.nd rfl (.inl rfl))) (fun _ _ _ _ _ => pts_nil) (fun _ _ _ _ _ => (pe_def F_law_plan (hr.mono (by decide)) pass0 (pa_cons (pv 1) (pa_cons pe_int pa_nil)))))
      (pss_cons (ps_par (i := 4) (j := 5) (by rfl) sc.nd rfl rfl (by decide) rfl rfl (pa_cons (pe_lc (own := [("_law_plan_here", 16)]) rfl sc.nd (pi_list (pv 3)) (blkOk_by (by rfl)) (fun _ _ _ _ _ => (pg_name (i := 16) sc.nd rfl (.inl rfl))) (fun _ _ _ _ _ => pts_nil) (fun _ _ _ _ _ => (pe_def F_law_value (hr.mono (by decide)) pass0 (pa_cons (pv 16) pa_nil)))) (pa_cons (pe_lc (own := [("_law_plan_here", 16)]) rfl sc.nd (pi_list (pv 3)) (blkOk_by (by rfl)) (fun _ _ _ _ _ => (pg_name (i := 16) sc.nd rfl (.inl rfl))) (fun _ _ _ _ _ => pts_nil) (fun _ _ _ _ _ => (pe_def F_law_row (hr.mono (by decide)) pass0 (pa_cons (pv 16) pa_nil)))) pa_nil)) (by rfl))
      (pss_cons (ps_if (pt_cmpR op_gt (pe_op op_mul (pe_ix ix_tup (pe_ix ix_list (pv 4) pe_int (fun _ _ => rfl)) pe_int (fun _ _ => rfl)) (pe_ix ix_tup (pe_ix ix_list (pv 4) pe_int (fun _ _ => rfl)) pe_int (fun _ _ => rfl))) pe_int (nomark _)) (pss_one ps_continue) pss_nil)
      (pss_one (ps_for PassesOwn.never rfl (pi_list (pe_lst (pa_cons pe_str (pa_cons pe_str (pa_cons pe_str pa_nil))))) (pg_name (i := 6) sc.nd rfl (.inl rfl)) (pss_cons (ps_set (i := 7) sc.nd rfl (.inl rfl) (pe_ifExp (pt_cmpR op_eq (pv 6) pe_str (nomark _)) (pe_op (op_own (op := .Add) R.own Fadd (hr.mono (by decide)) pass0) (pe_ix ix_list (pv 5) pe_int (fun _ _ => rfl)) (pe_ix ix_list (pv 5) pe_int (fun _ _ => rfl))) (pe_ifExp (pt_cmpR op_eq (pv 6) pe_str (nomark _)) (pe_op (op_own (op := .BitAnd) R.own Fand (hr.mono (by decide)) pass0) (pe_ix ix_list (pv 5) pe_int (fun _ _ => rfl)) (pe_ix ix_list (pv 5) pe_int (fun _ _ => rfl))) (pe_op (op_own (op := .Sub) R.own Fsub (hr.mono (by decide)) pass0) (pe_ix ix_list (pv 5) pe_int (fun _ _ => rfl)) (pe_ix ix_list (pv 5) pe_int (fun _ _ => rfl))))))
      (pss_cons (ps_set (i := 8) sc.nd rfl (.inl rfl) (pe_def F_law_both (hr.mono (by decide)) pass0 (pa_cons (pe_ix ix_list (pv 4) pe_int (fun _ _ => rfl)) (pa_cons (pe_ix ix_list (pv 4) pe_int (fun _ _ => rfl)) (pa_cons (pv 6) pa_nil)))))
      (pss_cons (ps_asg (pe_def F_law_normal (hr.mono (by decide)) pass0 (pa_cons (pv 8) pa_nil)) (pg_tup (by rfl) (pgs_cons (pg_name (i := 9) sc.nd rfl (.inl rfl)) (pgs_cons (pg_name (i := 10) sc.nd rfl (.inl rfl)) (pgs_cons (pg_name (i := 11) sc.nd rfl (.inl rfl)) (pgs_cons (pg_name (i := 12) sc.nd rfl (.inl rfl)) pgs_nil))))))
      (pss_cons (ps_if (pt_not (pt_val (pe_def F_law_equal (hr.mono (by decide)) pass0 (pa_cons (pe_lst (pa_cons (pe_prp R.own.cl Ftext (hr.mono (by decide)) pass0 (pv 7)) (pa_cons (pe_prp R.own.cl Frepetition (hr.mono (by decide)) pass0 (pv 7)) pa_nil))) (pa_cons (pe_lst (pa_cons (pe_def F_law_text (hr.mono (by decide)) pass0 (pa_cons (pv 8) pa_nil)) (pa_cons (pe_tup (pa_cons (pv 10) (pa_cons (pv 11) (pa_cons (pe_callB c_len (by rfl) b.len (by decide +kernel) (pa_cons (pv 12) pa_nil)) pa_nil)))) pa_nil))) pa_nil))))) (pss_one (ps_ret pe_bl)) pss_nil)
      (pss_cons (ps_if (PW.pt (pw_or (pt_cmpR op_ne (pe_callTy (c_boolO Fbool (hr.mono (by decide)) pass0) (by rfl) b.bool (by decide +kernel) (pa_cons (pv 7) pa_nil)) (pe_or (pe_cmpR (op_neD (rm64 hr)) (pv 9) (pe_tup pa_nil) (nomark _)) (pe_one (pe_cmpR (op_neD (rm64 hr)) (pv 12) (pe_tup pa_nil) (nomark _)))) (nomark _)) (pw_or1 (pt_cmpR op_ne (pe_prp R.own.cl Fis_endless (hr.mono (by decide)) pass0 (pv 7)) (pe_cmpR (op_neD (rm64 hr)) (pv 12) (pe_tup pa_nil) (nomark _)) (nomark _))))) (pss_one (ps_ret pe_bl)) pss_nil)
      (pss_cons (ps_set (i := 13) sc.nd rfl (.inl rfl) (pe_def F_law_value (hr.mono (by decide)) pass0 (pa_cons (pe_def F_law_plan (hr.mono (by decide)) pass0 (pa_cons (pv 1) (pa_cons pe_int pa_nil))) pa_nil)))
      (pss_one (ps_if (PW.pt (pw_and (pt_cmpR op_lt (pe_op op_mul (pv 11) (pe_ix ix_tup (pv 13) pe_int (fun _ _ => rfl))) pe_int (nomark _)) (pw_and1 (pt_cmpR op_ne (pv 6) pe_str (nomark _))))) (pss_cons (ps_set (i := 14) sc.nd rfl (.inl rfl) (pe_op (op_own (op := .Add) R.own Fadd (hr.mono (by decide)) pass0) (pe_cm Fparse (hr.mono (by decide)) pass0 (pe_gc R.gC) (pa_cons (pe_def F_law_text (hr.mono (by decide)) pass0 (pa_cons (pv 13) pa_nil)) pa_nil)) (pv 7)))
      (pss_one (ps_if (pt_not (pt_val (pe_def F_law_equal (hr.mono (by decide)) pass0 (pa_cons (pe_prp R.own.cl Ftext (hr.mono (by decide)) pass0 (pv 14)) (pa_cons (pe_def F_law_text (hr.mono (by decide)) pass0 (pa_cons (pe_def F_law_both (hr.mono (by decide)) pass0 (pa_cons (pv 13) (pa_cons (pv 8) (pa_cons pe_str pa_nil)))) pa_nil)) pa_nil))))) (pss_one (ps_ret pe_bl)) pss_nil))) pss_nil))))))))))))))
      (pss_one (ps_ret pe_bl))))
end
section
theorem kit_self {K : PySem.W.Frag} {v : Value} : PySem.W.kitOne K v v = some true := by unfold PySem.W.kitOne; rw [if_pos (beq_self_eq_true _)]
theorem all_mk {l : PySem.W.OpenLaw} {w : World} {K : PySem.W.Frag} {h : Heap} {mg : Str → Option Value} {fa C : Addr} (X : K.In h) (G : h.Ns mainGlobals mg) (hfa : mg "law" = some (.ref fa))
    {f0 : Addr} {od0 an0 : Option Addr} {sl0 : Array (Option Value)} {oc0 kV0 dc0 pm0 cd0 ct0 : Value}
    {f1 : Addr} {od1 an1 : Option Addr} {sl1 : Array (Option Value)} {oc1 kV1 dc1 pm1 cd1 ct1 : Value}
    {f2 : Addr} {od2 an2 : Option Addr} {sl2 : Array (Option Value)} {oc2 kV2 dc2 pm2 cd2 ct2 : Value}
    {f3 : Addr} {od3 an3 : Option Addr} {sl3 : Array (Option Value)} {oc3 kV3 dc3 pm3 cd3 ct3 : Value}
    {f4 : Addr} {od4 an4 : Option Addr} {sl4 : Array (Option Value)} {oc4 kV4 dc4 pm4 cd4 ct4 : Value}
    {f5 : Addr} {od5 an5 : Option Addr} {sl5 : Array (Option Value)} {oc5 kV5 dc5 pm5 cd5 ct5 : Value}
    {f6 : Addr} {od6 an6 : Option Addr} {sl6 : Array (Option Value)} {oc6 kV6 dc6 pm6 cd6 ct6 : Value}
    {f7 : Addr} {od7 an7 : Option Addr} {sl7 : Array (Option Value)} {oc7 kV7 dc7 pm7 cd7 ct7 : Value}
    {f8 : Addr} {od8 an8 : Option Addr} {sl8 : Array (Option Value)} {oc8 kV8 dc8 pm8 cd8 ct8 : Value}
    {f9 : Addr} {od9 an9 : Option Addr} {sl9 : Array (Option Value)} {oc9 kV9 dc9 pm9 cd9 ct9 : Value}
    {f10 : Addr} {od10 an10 : Option Addr} {sl10 : Array (Option Value)} {oc10 kV10 dc10 pm10 cd10 ct10 : Value}
    {f11 : Addr} {od11 an11 : Option Addr} {sl11 : Array (Option Value)} {oc11 kV11 dc11 pm11 cd11 ct11 : Value}
    {f12 : Addr} {od12 an12 : Option Addr} {sl12 : Array (Option Value)} {oc12 kV12 dc12 pm12 cd12 ct12 : Value}
    {p12 : Addr} {rs12 : List Value}
    {f13 : Addr} {od13 an13 : Option Addr} {sl13 : Array (Option Value)} {oc13 kV13 dc13 pm13 cd13 ct13 : Value}
    {f14 : Addr} {od14 an14 : Option Addr} {sl14 : Array (Option Value)} {oc14 kV14 dc14 pm14 cd14 ct14 : Value}
    {f15 : Addr} {od15 an15 : Option Addr} {sl15 : Array (Option Value)} {oc15 kV15 dc15 pm15 cd15 ct15 : Value}
    {f16 : Addr} {od16 an16 : Option Addr} {sl16 : Array (Option Value)} {oc16 kV16 dc16 pm16 cd16 ct16 : Value}
    {f17 : Addr} {od17 an17 : Option Addr} {sl17 : Array (Option Value)} {oc17 kV17 dc17 pm17 cd17 ct17 : Value}
    {f18 : Addr} {od18 an18 : Option Addr} {sl18 : Array (Option Value)} {oc18 kV18 dc18 pm18 cd18 ct18 : Value}
    {f19 : Addr} {od19 an19 : Option Addr} {sl19 : Array (Option Value)} {oc19 kV19 dc19 pm19 cd19 ct19 : Value}
    {f20 : Addr} {od20 an20 : Option Addr} {sl20 : Array (Option Value)} {oc20 kV20 dc20 pm20 cd20 ct20 : Value}
    {f21 : Addr} {od21 an21 : Option Addr} {sl21 : Array (Option Value)} {oc21 kV21 dc21 pm21 cd21 ct21 : Value}
    {f22 : Addr} {od22 an22 : Option Addr} {sl22 : Array (Option Value)} {oc22 kV22 dc22 pm22 cd22 ct22 : Value}
    {f23 : Addr} {od23 an23 : Option Addr} {sl23 : Array (Option Value)} {oc23 kV23 dc23 pm23 cd23 ct23 : Value}
    {f24 : Addr} {od24 an24 : Option Addr} {sl24 : Array (Option Value)} {oc24 kV24 dc24 pm24 cd24 ct24 : Value}
    {f25 : Addr} {od25 an25 : Option Addr} {sl25 : Array (Option Value)} {oc25 kV25 dc25 pm25 cd25 ct25 : Value}
    {p25 : Addr} {rs25 : List Value}
    {f26 : Addr} {od26 an26 : Option Addr} {sl26 : Array (Option Value)} {oc26 kV26 dc26 pm26 cd26 ct26 : Value}
    {p26 : Addr} {rs26 : List Value}
    {f27 : Addr} {od27 an27 : Option Addr} {sl27 : Array (Option Value)} {oc27 kV27 dc27 pm27 cd27 ct27 : Value}
    {p27 : Addr} {rs27 : List Value}
    {f28 : Addr} {od28 an28 : Option Addr} {sl28 : Array (Option Value)} {oc28 kV28 dc28 pm28 cd28 ct28 : Value}
    {p28 : Addr} {rs28 : List Value}
    {f29 : Addr} {od29 an29 : Option Addr} {sl29 : Array (Option Value)} {oc29 kV29 dc29 pm29 cd29 ct29 : Value}
    {f30 : Addr} {od30 an30 : Option Addr} {sl30 : Array (Option Value)} {oc30 kV30 dc30 pm30 cd30 ct30 : Value}
    {f31 : Addr} {od31 an31 : Option Addr} {sl31 : Array (Option Value)} {oc31 kV31 dc31 pm31 cd31 ct31 : Value}
    {p31 : Addr} {rs31 : List Value}
    {f32 : Addr} {od32 an32 : Option Addr} {sl32 : Array (Option Value)} {oc32 kV32 dc32 pm32 cd32 ct32 : Value}
    {tk_MAX_TICK : Tok}
    {tk_MAX_LENGTH : Tok}
    {tk_MAX_BEGIN : Tok}
    {tk_DIGITS : Tok}
    {tk_MAX_DIGITS : Tok}
    {tk_NEVER : Tok}
    {tk_BAR : Tok}
    (aC : PySem.W.nsIn K mainGlobals "Row" = some (some (.ref C)))
    (a0 : PySem.W.nsIn K mainGlobals "_law_random" = some (some (.ref f0)))
    (l0 : K.lookup f0 = some ⟨oc0, od0, .func (PySem.W.fnOf "_law_random" "_law_random" (defArgs (top 27)) (defBody (top 27)) (defScope (top 27)) .none kV0 dc0 pm0 an0 cd0 ct0), sl0⟩)
    (c0 : PySem.W.codeIn K cd0 "_law_random" = true)
    (k0 : PySem.W.keepIn K (.ref f0) = true)
    (a1 : PySem.W.nsIn K mainGlobals "_law_below" = some (some (.ref f1)))
    (l1 : K.lookup f1 = some ⟨oc1, od1, .func (PySem.W.fnOf "_law_below" "_law_below" (defArgs (top 28)) (defBody (top 28)) (defScope (top 28)) .none kV1 dc1 pm1 an1 cd1 ct1), sl1⟩)
    (c1 : PySem.W.codeIn K cd1 "_law_below" = true)
    (k1 : PySem.W.keepIn K (.ref f1) = true)
    (a2 : PySem.W.nsIn K mainGlobals "_law_laps" = some (some (.ref f2)))
    (l2 : K.lookup f2 = some ⟨oc2, od2, .func (PySem.W.fnOf "_law_laps" "_law_laps" (defArgs (top 29)) (defBody (top 29)) (defScope (top 29)) .none kV2 dc2 pm2 an2 cd2 ct2), sl2⟩)
    (c2 : PySem.W.codeIn K cd2 "_law_laps" = true)
    (k2 : PySem.W.keepIn K (.ref f2) = true)
    (a3 : PySem.W.nsIn K mainGlobals "_law_plan" = some (some (.ref f3)))
    (l3 : K.lookup f3 = some ⟨oc3, od3, .func (PySem.W.fnOf "_law_plan" "_law_plan" (defArgs (top 30)) (defBody (top 30)) (defScope (top 30)) .none kV3 dc3 pm3 an3 cd3 ct3), sl3⟩)
    (c3 : PySem.W.codeIn K cd3 "_law_plan" = true)
    (k3 : PySem.W.keepIn K (.ref f3) = true)
    (a4 : PySem.W.nsIn K mainGlobals "_law_value" = some (some (.ref f4)))
    (l4 : K.lookup f4 = some ⟨oc4, od4, .func (PySem.W.fnOf "_law_value" "_law_value" (defArgs (top 31)) (defBody (top 31)) (defScope (top 31)) .none kV4 dc4 pm4 an4 cd4 ct4), sl4⟩)
    (c4 : PySem.W.codeIn K cd4 "_law_value" = true)
    (k4 : PySem.W.keepIn K (.ref f4) = true)
    (a5 : PySem.W.findIn K (.ref C) "__init__" = some (some (.ref f5)))
    (i5 : PySem.W.isFn K (.ref f5) = true)
    (n5 : PySem.W.fnIn K f5 = true)
    (l5 : K.lookup f5 = some ⟨oc5, od5, .func (PySem.W.fnOf "__init__" "Row.__init__" (defArgs (inClass (top 18) 3)) (defBody (inClass (top 18) 3)) (defScope (inClass (top 18) 3)) .none kV5 dc5 pm5 an5 cd5 ct5), sl5⟩)
    (c5 : PySem.W.codeIn K cd5 "Row.__init__" = true)
    (k5 : PySem.W.keepIn K (.ref f5) = true)
    (a6 : PySem.W.nsIn K mainGlobals "read_number" = some (some (.ref f6)))
    (l6 : K.lookup f6 = some ⟨oc6, od6, .func (PySem.W.fnOf "read_number" "read_number" (defArgs (top 19)) (defBody (top 19)) (defScope (top 19)) .none kV6 dc6 pm6 an6 cd6 ct6), sl6⟩)
    (c6 : PySem.W.codeIn K cd6 "read_number" = true)
    (k6 : PySem.W.keepIn K (.ref f6) = true)
    (a7 : PySem.W.nsIn K mainGlobals "shortest" = some (some (.ref f7)))
    (l7 : K.lookup f7 = some ⟨oc7, od7, .func (PySem.W.fnOf "shortest" "shortest" (defArgs (top 23)) (defBody (top 23)) (defScope (top 23)) .none kV7 dc7 pm7 an7 cd7 ct7), sl7⟩)
    (c7 : PySem.W.codeIn K cd7 "shortest" = true)
    (k7 : PySem.W.keepIn K (.ref f7) = true)
    (a8 : PySem.W.nsIn K mainGlobals "normal" = some (some (.ref f8)))
    (l8 : K.lookup f8 = some ⟨oc8, od8, .func (PySem.W.fnOf "normal" "normal" (defArgs (top 24)) (defBody (top 24)) (defScope (top 24)) .none kV8 dc8 pm8 an8 cd8 ct8), sl8⟩)
    (c8 : PySem.W.codeIn K cd8 "normal" = true)
    (k8 : PySem.W.keepIn K (.ref f8) = true)
    (a9 : PySem.W.nsIn K mainGlobals "row_of_ticks" = some (some (.ref f9)))
    (l9 : K.lookup f9 = some ⟨oc9, od9, .func (PySem.W.fnOf "row_of_ticks" "row_of_ticks" (defArgs (top 21)) (defBody (top 21)) (defScope (top 21)) .none kV9 dc9 pm9 an9 cd9 ct9), sl9⟩)
    (c9 : PySem.W.codeIn K cd9 "row_of_ticks" = true)
    (k9 : PySem.W.keepIn K (.ref f9) = true)
    (a10 : PySem.W.nsIn K mainGlobals "ticks_of" = some (some (.ref f10)))
    (l10 : K.lookup f10 = some ⟨oc10, od10, .func (PySem.W.fnOf "ticks_of" "ticks_of" (defArgs (top 20)) (defBody (top 20)) (defScope (top 20)) .none kV10 dc10 pm10 an10 cd10 ct10), sl10⟩)
    (c10 : PySem.W.codeIn K cd10 "ticks_of" = true)
    (k10 : PySem.W.keepIn K (.ref f10) = true)
    (a11 : PySem.W.nsIn K mainGlobals "row_of_laps" = some (some (.ref f11)))
    (l11 : K.lookup f11 = some ⟨oc11, od11, .func (PySem.W.fnOf "row_of_laps" "row_of_laps" (defArgs (top 22)) (defBody (top 22)) (defScope (top 22)) .none kV11 dc11 pm11 an11 cd11 ct11), sl11⟩)
    (c11 : PySem.W.codeIn K cd11 "row_of_laps" = true)
    (k11 : PySem.W.keepIn K (.ref f11) = true)
    (a12 : PySem.W.findCls K (.ref C) (.type "type") "parse" = some (.get (.builtin "classmethod.__get__") (.ref p12) .none (.ref C)))
    (i12 : PySem.W.recIn K p12 "classmethod" = some (.ref f12 :: rs12))
    (n12 : PySem.W.fnIn K f12 = true)
    (l12 : K.lookup f12 = some ⟨oc12, od12, .func (PySem.W.fnOf "parse" "Row.parse" (defArgs (inClass (top 18) 5)) (defBody (inClass (top 18) 5)) (defScope (inClass (top 18) 5)) .none kV12 dc12 pm12 an12 cd12 ct12), sl12⟩)
    (c12 : PySem.W.codeIn K cd12 "Row.parse" = true)
    (k12 : PySem.W.keepIn K (.ref f12) = true)
    (a13 : PySem.W.nsIn K mainGlobals "_law_row" = some (some (.ref f13)))
    (l13 : K.lookup f13 = some ⟨oc13, od13, .func (PySem.W.fnOf "_law_row" "_law_row" (defArgs (top 32)) (defBody (top 32)) (defScope (top 32)) .none kV13 dc13 pm13 an13 cd13 ct13), sl13⟩)
    (c13 : PySem.W.codeIn K cd13 "_law_row" = true)
    (k13 : PySem.W.keepIn K (.ref f13) = true)
    (a14 : PySem.W.nsIn K mainGlobals "common_divisor" = some (some (.ref f14)))
    (l14 : K.lookup f14 = some ⟨oc14, od14, .func (PySem.W.fnOf "common_divisor" "common_divisor" (defArgs (top 17)) (defBody (top 17)) (defScope (top 17)) .none kV14 dc14 pm14 an14 cd14 ct14), sl14⟩)
    (c14 : PySem.W.codeIn K cd14 "common_divisor" = true)
    (k14 : PySem.W.keepIn K (.ref f14) = true)
    (a15 : PySem.W.findIn K (.ref C) "ticks_before" = some (some (.ref f15)))
    (i15 : PySem.W.isFn K (.ref f15) = true)
    (n15 : PySem.W.fnIn K f15 = true)
    (l15 : K.lookup f15 = some ⟨oc15, od15, .func (PySem.W.fnOf "ticks_before" "Row.ticks_before" (defArgs (inClass (top 18) 13)) (defBody (inClass (top 18) 13)) (defScope (inClass (top 18) 13)) .none kV15 dc15 pm15 an15 cd15 ct15), sl15⟩)
    (c15 : PySem.W.codeIn K cd15 "Row.ticks_before" = true)
    (k15 : PySem.W.keepIn K (.ref f15) = true)
    (a16 : PySem.W.nsIn K mainGlobals "combined" = some (some (.ref f16)))
    (l16 : K.lookup f16 = some ⟨oc16, od16, .func (PySem.W.fnOf "combined" "combined" (defArgs (top 25)) (defBody (top 25)) (defScope (top 25)) .none kV16 dc16 pm16 an16 cd16 ct16), sl16⟩)
    (c16 : PySem.W.codeIn K cd16 "combined" = true)
    (k16 : PySem.W.keepIn K (.ref f16) = true)
    (a17 : PySem.W.findIn K (.ref C) "__add__" = some (some (.ref f17)))
    (i17 : PySem.W.isFn K (.ref f17) = true)
    (n17 : PySem.W.fnIn K f17 = true)
    (l17 : K.lookup f17 = some ⟨oc17, od17, .func (PySem.W.fnOf "__add__" "Row.__add__" (defArgs (inClass (top 18) 20)) (defBody (inClass (top 18) 20)) (defScope (inClass (top 18) 20)) .none kV17 dc17 pm17 an17 cd17 ct17), sl17⟩)
    (c17 : PySem.W.codeIn K cd17 "Row.__add__" = true)
    (k17 : PySem.W.keepIn K (.ref f17) = true)
    (a18 : PySem.W.findIn K (.ref C) "__and__" = some (some (.ref f18)))
    (i18 : PySem.W.isFn K (.ref f18) = true)
    (n18 : PySem.W.fnIn K f18 = true)
    (l18 : K.lookup f18 = some ⟨oc18, od18, .func (PySem.W.fnOf "__and__" "Row.__and__" (defArgs (inClass (top 18) 21)) (defBody (inClass (top 18) 21)) (defScope (inClass (top 18) 21)) .none kV18 dc18 pm18 an18 cd18 ct18), sl18⟩)
    (c18 : PySem.W.codeIn K cd18 "Row.__and__" = true)
    (k18 : PySem.W.keepIn K (.ref f18) = true)
    (a19 : PySem.W.findIn K (.ref C) "__sub__" = some (some (.ref f19)))
    (i19 : PySem.W.isFn K (.ref f19) = true)
    (n19 : PySem.W.fnIn K f19 = true)
    (l19 : K.lookup f19 = some ⟨oc19, od19, .func (PySem.W.fnOf "__sub__" "Row.__sub__" (defArgs (inClass (top 18) 22)) (defBody (inClass (top 18) 22)) (defScope (inClass (top 18) 22)) .none kV19 dc19 pm19 an19 cd19 ct19), sl19⟩)
    (c19 : PySem.W.codeIn K cd19 "Row.__sub__" = true)
    (k19 : PySem.W.keepIn K (.ref f19) = true)
    (a20 : PySem.W.nsIn K mainGlobals "_law_at" = some (some (.ref f20)))
    (l20 : K.lookup f20 = some ⟨oc20, od20, .func (PySem.W.fnOf "_law_at" "_law_at" (defArgs (top 33)) (defBody (top 33)) (defScope (top 33)) .none kV20 dc20 pm20 an20 cd20 ct20), sl20⟩)
    (c20 : PySem.W.codeIn K cd20 "_law_at" = true)
    (k20 : PySem.W.keepIn K (.ref f20) = true)
    (a21 : PySem.W.nsIn K mainGlobals "_law_both" = some (some (.ref f21)))
    (l21 : K.lookup f21 = some ⟨oc21, od21, .func (PySem.W.fnOf "_law_both" "_law_both" (defArgs (top 34)) (defBody (top 34)) (defScope (top 34)) .none kV21 dc21 pm21 an21 cd21 ct21), sl21⟩)
    (c21 : PySem.W.codeIn K cd21 "_law_both" = true)
    (k21 : PySem.W.keepIn K (.ref f21) = true)
    (a22 : PySem.W.nsIn K mainGlobals "_law_same" = some (some (.ref f22)))
    (l22 : K.lookup f22 = some ⟨oc22, od22, .func (PySem.W.fnOf "_law_same" "_law_same" (defArgs (top 35)) (defBody (top 35)) (defScope (top 35)) .none kV22 dc22 pm22 an22 cd22 ct22), sl22⟩)
    (c22 : PySem.W.codeIn K cd22 "_law_same" = true)
    (k22 : PySem.W.keepIn K (.ref f22) = true)
    (a23 : PySem.W.nsIn K mainGlobals "_law_normal" = some (some (.ref f23)))
    (l23 : K.lookup f23 = some ⟨oc23, od23, .func (PySem.W.fnOf "_law_normal" "_law_normal" (defArgs (top 36)) (defBody (top 36)) (defScope (top 36)) .none kV23 dc23 pm23 an23 cd23 ct23), sl23⟩)
    (c23 : PySem.W.codeIn K cd23 "_law_normal" = true)
    (k23 : PySem.W.keepIn K (.ref f23) = true)
    (a24 : PySem.W.nsIn K mainGlobals "_law_equal" = some (some (.ref f24)))
    (l24 : K.lookup f24 = some ⟨oc24, od24, .func (PySem.W.fnOf "_law_equal" "_law_equal" (defArgs (top 37)) (defBody (top 37)) (defScope (top 37)) .none kV24 dc24 pm24 an24 cd24 ct24), sl24⟩)
    (c24 : PySem.W.codeIn K cd24 "_law_equal" = true)
    (k24 : PySem.W.keepIn K (.ref f24) = true)
    (a25 : PySem.W.findIn K (.ref C) "first_laps" = some (some (.ref p25)))
    (b25_0 : PySem.W.specialIn K (.ref p25) "__get__" = some (some (.builtin "property.__get__")))
    (b25_1 : PySem.W.takesIn K (.ref p25) = some true)
    (b25_2 : PySem.W.recIn K p25 "property" = some (.ref f25 :: rs25))
    (l25 : K.lookup f25 = some ⟨oc25, od25, .func (PySem.W.fnOf "first_laps" "Row.first_laps" (defArgs (inClass (top 18) 9)) (defBody (inClass (top 18) 9)) (defScope (inClass (top 18) 9)) .none kV25 dc25 pm25 an25 cd25 ct25), sl25⟩)
    (c25 : PySem.W.codeIn K cd25 "Row.first_laps" = true)
    (k25 : PySem.W.keepIn K (.ref f25) = true)
    (a26 : PySem.W.findIn K (.ref C) "laps" = some (some (.ref p26)))
    (b26_0 : PySem.W.specialIn K (.ref p26) "__get__" = some (some (.builtin "property.__get__")))
    (b26_1 : PySem.W.takesIn K (.ref p26) = some true)
    (b26_2 : PySem.W.recIn K p26 "property" = some (.ref f26 :: rs26))
    (l26 : K.lookup f26 = some ⟨oc26, od26, .func (PySem.W.fnOf "laps" "Row.laps" (defArgs (inClass (top 18) 8)) (defBody (inClass (top 18) 8)) (defScope (inClass (top 18) 8)) .none kV26 dc26 pm26 an26 cd26 ct26), sl26⟩)
    (c26 : PySem.W.codeIn K cd26 "Row.laps" = true)
    (k26 : PySem.W.keepIn K (.ref f26) = true)
    (a27 : PySem.W.findIn K (.ref C) "text" = some (some (.ref p27)))
    (b27_0 : PySem.W.specialIn K (.ref p27) "__get__" = some (some (.builtin "property.__get__")))
    (b27_1 : PySem.W.takesIn K (.ref p27) = some true)
    (b27_2 : PySem.W.recIn K p27 "property" = some (.ref f27 :: rs27))
    (l27 : K.lookup f27 = some ⟨oc27, od27, .func (PySem.W.fnOf "text" "Row.text" (defArgs (inClass (top 18) 10)) (defBody (inClass (top 18) 10)) (defScope (inClass (top 18) 10)) .none kV27 dc27 pm27 an27 cd27 ct27), sl27⟩)
    (c27 : PySem.W.codeIn K cd27 "Row.text" = true)
    (k27 : PySem.W.keepIn K (.ref f27) = true)
    (a28 : PySem.W.findIn K (.ref C) "repetition" = some (some (.ref p28)))
    (b28_0 : PySem.W.specialIn K (.ref p28) "__get__" = some (some (.builtin "property.__get__")))
    (b28_1 : PySem.W.takesIn K (.ref p28) = some true)
    (b28_2 : PySem.W.recIn K p28 "property" = some (.ref f28 :: rs28))
    (l28 : K.lookup f28 = some ⟨oc28, od28, .func (PySem.W.fnOf "repetition" "Row.repetition" (defArgs (inClass (top 18) 7)) (defBody (inClass (top 18) 7)) (defScope (inClass (top 18) 7)) .none kV28 dc28 pm28 an28 cd28 ct28), sl28⟩)
    (c28 : PySem.W.codeIn K cd28 "Row.repetition" = true)
    (k28 : PySem.W.keepIn K (.ref f28) = true)
    (a29 : PySem.W.nsIn K mainGlobals "_law_text" = some (some (.ref f29)))
    (l29 : K.lookup f29 = some ⟨oc29, od29, .func (PySem.W.fnOf "_law_text" "_law_text" (defArgs (top 38)) (defBody (top 38)) (defScope (top 38)) .none kV29 dc29 pm29 an29 cd29 ct29), sl29⟩)
    (c29 : PySem.W.codeIn K cd29 "_law_text" = true)
    (k29 : PySem.W.keepIn K (.ref f29) = true)
    (a30 : PySem.W.findIn K (.ref C) "__bool__" = some (some (.ref f30)))
    (i30 : PySem.W.isFn K (.ref f30) = true)
    (n30 : PySem.W.fnIn K f30 = true)
    (l30 : K.lookup f30 = some ⟨oc30, od30, .func (PySem.W.fnOf "__bool__" "Row.__bool__" (defArgs (inClass (top 18) 17)) (defBody (inClass (top 18) 17)) (defScope (inClass (top 18) 17)) .none kV30 dc30 pm30 an30 cd30 ct30), sl30⟩)
    (c30 : PySem.W.codeIn K cd30 "Row.__bool__" = true)
    (k30 : PySem.W.keepIn K (.ref f30) = true)
    (a31 : PySem.W.findIn K (.ref C) "is_endless" = some (some (.ref p31)))
    (b31_0 : PySem.W.specialIn K (.ref p31) "__get__" = some (some (.builtin "property.__get__")))
    (b31_1 : PySem.W.takesIn K (.ref p31) = some true)
    (b31_2 : PySem.W.recIn K p31 "property" = some (.ref f31 :: rs31))
    (l31 : K.lookup f31 = some ⟨oc31, od31, .func (PySem.W.fnOf "is_endless" "Row.is_endless" (defArgs (inClass (top 18) 6)) (defBody (inClass (top 18) 6)) (defScope (inClass (top 18) 6)) .none kV31 dc31 pm31 an31 cd31 ct31), sl31⟩)
    (c31 : PySem.W.codeIn K cd31 "Row.is_endless" = true)
    (k31 : PySem.W.keepIn K (.ref f31) = true)
    (a32 : PySem.W.nsIn K mainGlobals "law" = some (some (.ref f32)))
    (l32 : K.lookup f32 = some ⟨oc32, od32, .func (PySem.W.fnOf "law" "law" (defArgs (top 39)) (defBody (top 39)) (defScope (top 39)) .none kV32 dc32 pm32 an32 cd32 ct32), sl32⟩)
    (c32 : PySem.W.codeIn K cd32 "law" = true)
    (k32 : PySem.W.keepIn K (.ref f32) = true)
    (pg : PySem.W.plainGet K C Str.empty = true)
    (hdd : PySem.W.hasDictIn K C = true)
    (po : PySem.W.plainOver K C = true)
    (sa : PySem.W.findIn K (.ref C) "__setattr__" = some (some (.builtin "object.__setattr__")))
    (mk : PySem.W.makesIn K C = true)
    (kc : PySem.W.keepIn K (.ref C) = true)
    (sf : PySem.W.selfFirst K C = true)
    (nsq : PySem.W.noSeq K C = true)
    (ne1 : PySem.W.findIn K (.ref C) "__ne__" = some (some (.builtin "object.__ne__")))
    (ne2 : PySem.W.subIn K (.ref C) (.type "object") = some true)
    (x1 : PySem.W.findIn K (.ref C) "__class__" = some (some (.builtin "object.__class__")))
    (x2 : PySem.W.specialIn K (.builtin "object.__class__") "__get__" = some (some (.builtin "getset_descriptor.__get__")))
    (x3 : PySem.W.takesIn K (.builtin "object.__class__") = some true)
    (x4 : PySem.W.mroIn K C (.type "object") = some true)
    (cr1 : PySem.W.readsIn K C (.type "type") = true)
    (cr2 : PySem.W.specialIn K (.ref C) "__getattribute__" = some (some (.builtin "type.__getattribute__")))
    (na_early : PySem.W.findIn K (.ref C) "early" = some none)
    (na_begin : PySem.W.findIn K (.ref C) "begin" = some none)
    (na_length : PySem.W.findIn K (.ref C) "length" = some none)
    (na_offsets : PySem.W.findIn K (.ref C) "offsets" = some none)
    (na_marks : PySem.W.findIn K (.ref C) "marks" = some none)
    (na_parts : PySem.W.findIn K (.ref C) "parts" = some none)
    (z_range : PySem.W.nsIn K mainGlobals "range" = some none)
    (z_len : PySem.W.nsIn K mainGlobals "len" = some none)
    (z_isinstance : PySem.W.nsIn K mainGlobals "isinstance" = some none)
    (z_bool : PySem.W.nsIn K mainGlobals "bool" = some none)
    (z_int : PySem.W.nsIn K mainGlobals "int" = some none)
    (z_list : PySem.W.nsIn K mainGlobals "list" = some none)
    (z_tuple : PySem.W.nsIn K mainGlobals "tuple" = some none)
    (z_str : PySem.W.nsIn K mainGlobals "str" = some none)
    (z_sum : PySem.W.nsIn K mainGlobals "sum" = some none)
    (z_all : PySem.W.nsIn K mainGlobals "all" = some none)
    (z_any : PySem.W.nsIn K mainGlobals "any" = some none)
    (z_sorted : PySem.W.nsIn K mainGlobals "sorted" = some none)
    (z_dict : PySem.W.nsIn K mainGlobals "dict" = some none)
    (z_max : PySem.W.nsIn K mainGlobals "max" = some none)
    (z_min : PySem.W.nsIn K mainGlobals "min" = some none)
    (z_divmod : PySem.W.nsIn K mainGlobals "divmod" = some none)
    (z_abs : PySem.W.nsIn K mainGlobals "abs" = some none)
    (z_enumerate : PySem.W.nsIn K mainGlobals "enumerate" = some none)
    (v_MAX_TICK : PySem.W.nsIn K mainGlobals "MAX_TICK" = some (some (.int 1000000000000000000 tk_MAX_TICK)))
    (v_MAX_LENGTH : PySem.W.nsIn K mainGlobals "MAX_LENGTH" = some (some (.int 20000 tk_MAX_LENGTH)))
    (v_MAX_BEGIN : PySem.W.nsIn K mainGlobals "MAX_BEGIN" = some (some (.int 100000 tk_MAX_BEGIN)))
    (v_DIGITS : PySem.W.nsIn K mainGlobals "DIGITS" = some (some (.str "0123456789" tk_DIGITS)))
    (v_MAX_DIGITS : PySem.W.nsIn K mainGlobals "MAX_DIGITS" = some (some (.int 6 tk_MAX_DIGITS)))
    (v_NEVER : PySem.W.nsIn K mainGlobals "NEVER" = some (some (.str "never" tk_NEVER)))
    (v_BAR : PySem.W.nsIn K mainGlobals "BAR" = some (some (.str "|" tk_BAR))) :
    ∃ fd : FuncData, (∀ (s : Shared) (v : Value), BindsTo s fd ⟨[v], []⟩ [("_law_script", v)]) ∧ ∀ base : Heap, K.In base → base.Ns mainGlobals mg → FnOk l.prog w K mg base CX0 9 fa fd ["_law_script"] (spLaw K) := by
  have e := hfa.symm.trans (PySem.W.mg_of X G a32)
  cases e
  have cls : Cls K C := ⟨pg, hdd, po, sa⟩
  have T : TyF K C := ⟨kit_self, fun H a dx fs hi => .base (.ins hi cls x1 x2 x3 x4), cls, na_early, na_begin, na_length, na_offsets, na_marks, na_parts, L2.kit_ty (by decide +kernel), L2.kit_ty (by decide +kernel), L2.kit_ty (by decide +kernel), L2.kit_ty (by decide +kernel), L2.kit_ty (by decide +kernel), L2.kit_ty (by decide +kernel)⟩
  have R : RowC K mg C := ⟨⟨cls, sf, nsq⟩, ⟨ne1, ne2⟩, PySem.W.mg_of X G aC, na_early, na_begin, na_length, na_offsets, na_marks, na_parts, ⟨.own C, kit_self⟩⟩
  have c : Cst mg := ⟨⟨_, PySem.W.mg_of X G v_MAX_TICK⟩, ⟨_, PySem.W.mg_of X G v_MAX_LENGTH⟩, ⟨_, PySem.W.mg_of X G v_MAX_BEGIN⟩, ⟨_, PySem.W.mg_of X G v_DIGITS⟩, ⟨_, PySem.W.mg_of X G v_MAX_DIGITS⟩, ⟨_, PySem.W.mg_of X G v_NEVER⟩, ⟨_, PySem.W.mg_of X G v_BAR⟩⟩
  have b : Blt mg := ⟨PySem.W.mg_none_of X G z_range, PySem.W.mg_none_of X G z_len, PySem.W.mg_none_of X G z_isinstance, PySem.W.mg_none_of X G z_bool, PySem.W.mg_none_of X G z_int, PySem.W.mg_none_of X G z_list, PySem.W.mg_none_of X G z_tuple, PySem.W.mg_none_of X G z_str, PySem.W.mg_none_of X G z_sum, PySem.W.mg_none_of X G z_all, PySem.W.mg_none_of X G z_any, PySem.W.mg_none_of X G z_sorted, PySem.W.mg_none_of X G z_dict, PySem.W.mg_none_of X G z_max, PySem.W.mg_none_of X G z_min, PySem.W.mg_none_of X G z_divmod, PySem.W.mg_none_of X G z_abs, PySem.W.mg_none_of X G z_enumerate⟩
  have F0 := fun_mk (st := (top 27)) l0 c0 k0
  have b0 := F0.binds (ps := ["_law_script", "_law_salt"]) fun _ _ _ _ _ _ us hl => match us, hl with | [_, _], _ => rfl
  have F1 := fun_mk (st := (top 28)) l1 c1 k1
  have b1 := F1.binds (ps := ["_law_d", "_law_limit"]) fun _ _ _ _ _ _ us hl => match us, hl with | [_, _], _ => rfl
  have F2 := fun_mk (st := (top 29)) l2 c2 k2
  have b2 := F2.binds (ps := ["_law_d", "_law_most"]) fun _ _ _ _ _ _ us hl => match us, hl with | [_, _], _ => rfl
  have F3 := fun_mk (st := (top 30)) l3 c3 k3
  have b3 := F3.binds (ps := ["_law_d", "_law_most"]) fun _ _ _ _ _ _ us hl => match us, hl with | [_, _], _ => rfl
  have F4 := fun_mk (st := (top 31)) l4 c4 k4
  have b4 := F4.binds (ps := ["_law_plan_here"]) fun _ _ _ _ _ _ us hl => match us, hl with | [_], _ => rfl
  have F5 := fun_mk (st := (inClass (top 18) 3)) l5 c5 k5
  have b5 := F5.binds (ps := ["self", "early", "begin", "length", "offsets"]) fun _ _ _ _ _ _ us hl => match us, hl with | [_, _, _, _, _], _ => rfl
  have F6 := fun_mk (st := (top 19)) l6 c6 k6
  have b6 := F6.binds (ps := ["word"]) fun _ _ _ _ _ _ us hl => match us, hl with | [_], _ => rfl
  have F7 := fun_mk (st := (top 23)) l7 c7 k7
  have b7 := F7.binds (ps := ["length", "offsets"]) fun _ _ _ _ _ _ us hl => match us, hl with | [_, _], _ => rfl
  have F8 := fun_mk (st := (top 24)) l8 c8 k8
  have b8 := F8.binds (ps := ["early", "begin", "length", "offsets"]) fun _ _ _ _ _ _ us hl => match us, hl with | [_, _, _, _], _ => rfl
  have F9 := fun_mk (st := (top 21)) l9 c9 k9
  have b9 := F9.binds (ps := ["ticks"]) fun _ _ _ _ _ _ us hl => match us, hl with | [_], _ => rfl
  have F10 := fun_mk (st := (top 20)) l10 c10 k10
  have b10 := F10.binds (ps := ["numbers"]) fun _ _ _ _ _ _ us hl => match us, hl with | [_], _ => rfl
  have F11 := fun_mk (st := (top 22)) l11 c11 k11
  have b11 := F11.binds (ps := ["start", "first", "laps"]) fun _ _ _ _ _ _ us hl => match us, hl with | [_, _, _], _ => rfl
  have F12 := fun_mk (st := (inClass (top 18) 5)) l12 c12 k12
  have b12 := F12.binds (ps := ["cls", "text"]) fun _ _ _ _ _ _ us hl => match us, hl with | [_, _], _ => rfl
  have F13 := fun_mk (st := (top 32)) l13 c13 k13
  have b13 := F13.binds (ps := ["_law_plan_here"]) fun _ _ _ _ _ _ us hl => match us, hl with | [_], _ => rfl
  have F14 := fun_mk (st := (top 17)) l14 c14 k14
  have b14 := F14.binds (ps := ["one", "other"]) fun _ _ _ _ _ _ us hl => match us, hl with | [_, _], _ => rfl
  have F15 := fun_mk (st := (inClass (top 18) 13)) l15 c15 k15
  have b15 := F15.binds (ps := ["self", "end"]) fun _ _ _ _ _ _ us hl => match us, hl with | [_, _], _ => rfl
  have F16 := fun_mk (st := (top 25)) l16 c16 k16
  have b16 := F16.binds (ps := ["one", "other", "in_both", "in_one", "in_other"]) fun _ _ _ _ _ _ us hl => match us, hl with | [_, _, _, _, _], _ => rfl
  have F17 := fun_mk (st := (inClass (top 18) 20)) l17 c17 k17
  have b17 := F17.binds (ps := ["self", "other"]) fun _ _ _ _ _ _ us hl => match us, hl with | [_, _], _ => rfl
  have F18 := fun_mk (st := (inClass (top 18) 21)) l18 c18 k18
  have b18 := F18.binds (ps := ["self", "other"]) fun _ _ _ _ _ _ us hl => match us, hl with | [_, _], _ => rfl
  have F19 := fun_mk (st := (inClass (top 18) 22)) l19 c19 k19
  have b19 := F19.binds (ps := ["self", "other"]) fun _ _ _ _ _ _ us hl => match us, hl with | [_, _], _ => rfl
  have F20 := fun_mk (st := (top 33)) l20 c20 k20
  have b20 := F20.binds (ps := ["_law_value_here", "_law_tick"]) fun _ _ _ _ _ _ us hl => match us, hl with | [_, _], _ => rfl
  have F21 := fun_mk (st := (top 34)) l21 c21 k21
  have b21 := F21.binds (ps := ["_law_one", "_law_other", "_law_word"]) fun _ _ _ _ _ _ us hl => match us, hl with | [_, _, _], _ => rfl
  have F22 := fun_mk (st := (top 35)) l22 c22 k22
  have b22 := F22.binds (ps := ["_law_value_here", "_law_known", "_law_tick", "_law_size"]) fun _ _ _ _ _ _ us hl => match us, hl with | [_, _, _, _], _ => rfl
  have F23 := fun_mk (st := (top 36)) l23 c23 k23
  have b23 := F23.binds (ps := ["_law_value_here"]) fun _ _ _ _ _ _ us hl => match us, hl with | [_], _ => rfl
  have F24 := fun_mk (st := (top 37)) l24 c24 k24
  have b24 := F24.binds (ps := ["_law_actual", "_law_expected"]) fun _ _ _ _ _ _ us hl => match us, hl with | [_, _], _ => rfl
  have F25 := fun_mk (st := (inClass (top 18) 9)) l25 c25 k25
  have b25 := F25.binds (ps := ["self"]) fun _ _ _ _ _ _ us hl => match us, hl with | [_], _ => rfl
  have F26 := fun_mk (st := (inClass (top 18) 8)) l26 c26 k26
  have b26 := F26.binds (ps := ["self"]) fun _ _ _ _ _ _ us hl => match us, hl with | [_], _ => rfl
  have F27 := fun_mk (st := (inClass (top 18) 10)) l27 c27 k27
  have b27 := F27.binds (ps := ["self"]) fun _ _ _ _ _ _ us hl => match us, hl with | [_], _ => rfl
  have F28 := fun_mk (st := (inClass (top 18) 7)) l28 c28 k28
  have b28 := F28.binds (ps := ["self"]) fun _ _ _ _ _ _ us hl => match us, hl with | [_], _ => rfl
  have F29 := fun_mk (st := (top 38)) l29 c29 k29
  have b29 := F29.binds (ps := ["_law_value_here"]) fun _ _ _ _ _ _ us hl => match us, hl with | [_], _ => rfl
  have F30 := fun_mk (st := (inClass (top 18) 17)) l30 c30 k30
  have b30 := F30.binds (ps := ["self"]) fun _ _ _ _ _ _ us hl => match us, hl with | [_], _ => rfl
  have F31 := fun_mk (st := (inClass (top 18) 6)) l31 c31 k31
  have b31 := F31.binds (ps := ["self"]) fun _ _ _ _ _ _ us hl => match us, hl with | [_], _ => rfl
  have F32 := fun_mk (st := (top 39)) l32 c32 k32
  have b32 := F32.binds (ps := ["_law_script"]) fun _ _ _ _ _ _ us hl => match us, hl with | [_], _ => rfl
  have O0 : ∀ base : Heap, FnOk l.prog w K mg base CX0 1 f0 _ ["_law_script", "_law_salt"] (spRandom K) := fun base => okLrandom F0 T c b R 
  have D0 : ∀ base : Heap, DefN l.prog w K mg base CX0 1 "_law_random" ["_law_script", "_law_salt"] (spRandom K) := fun base => ⟨f0, _, PySem.W.mg_of X G a0, k0, O0 base, b0⟩
  have O1 : ∀ base : Heap, FnOk l.prog w K mg base CX0 1 f1 _ ["_law_d", "_law_limit"] (spBelow) := fun base => okLbelow F1 T c b R 
  have D1 : ∀ base : Heap, DefN l.prog w K mg base CX0 1 "_law_below" ["_law_d", "_law_limit"] (spBelow) := fun base => ⟨f1, _, PySem.W.mg_of X G a1, k1, O1 base, b1⟩
  have O2 : ∀ base : Heap, FnOk l.prog w K mg base CX0 2 f2 _ ["_law_d", "_law_most"] (spLawLaps) := fun base => okLlaps F2 T c b R (D1 base)
  have D2 : ∀ base : Heap, DefN l.prog w K mg base CX0 2 "_law_laps" ["_law_d", "_law_most"] (spLawLaps) := fun base => ⟨f2, _, PySem.W.mg_of X G a2, k2, O2 base, b2⟩
  have O3 : ∀ base : Heap, FnOk l.prog w K mg base CX0 3 f3 _ ["_law_d", "_law_most"] (spPlan) := fun base => okLplan F3 T c b R (D1 base) (D2 base)
  have D3 : ∀ base : Heap, DefN l.prog w K mg base CX0 3 "_law_plan" ["_law_d", "_law_most"] (spPlan) := fun base => ⟨f3, _, PySem.W.mg_of X G a3, k3, O3 base, b3⟩
  have O4 : ∀ base : Heap, FnOk l.prog w K mg base CX0 1 f4 _ ["_law_plan_here"] (spU K C upValue) := fun base => okLvalue F4 T c b R 
  have D4 : ∀ base : Heap, DefN l.prog w K mg base CX0 1 "_law_value" ["_law_plan_here"] (spU K C upValue) := fun base => ⟨f4, _, PySem.W.mg_of X G a4, k4, O4 base, b4⟩
  have O5 : ∀ base : Heap, FnOk l.prog w K mg base CX0 1 f5 _ ["self", "early", "begin", "length", "offsets"] (spInit K C) := fun base => okRinit F5 T c b R 
  have D5 : ∀ base : Heap, MkN l.prog w K mg base CX0 1 C (spInit K C) := fun base => ⟨f5, ⟨mk, a5, i5, kc⟩, by have z := (O5 base).raw b5 .nil; simpa only [List.append_nil] using z⟩
  have O6 : ∀ base : Heap, FnOk l.prog w K mg base CX0 1 f6 _ ["word"] (spReadNumber) := fun base => okPread_number F6 T c b R 
  have D6 : ∀ base : Heap, DefN l.prog w K mg base CX0 1 "read_number" ["word"] (spReadNumber) := fun base => ⟨f6, _, PySem.W.mg_of X G a6, k6, O6 base, b6⟩
  have O7 : ∀ base : Heap, FnOk l.prog w K mg base CX0 1 f7 _ ["length", "offsets"] (spShortest K) := fun base => okPshortest F7 T c b R 
  have D7 : ∀ base : Heap, DefN l.prog w K mg base CX0 1 "shortest" ["length", "offsets"] (spShortest K) := fun base => ⟨f7, _, PySem.W.mg_of X G a7, k7, O7 base, b7⟩
  have O8 : ∀ base : Heap, FnOk l.prog w K mg base CX0 3 f8 _ ["early", "begin", "length", "offsets"] (spNormal K C) := fun base => okPnormal F8 T c b R (D5 base) (D7 base)
  have D8 : ∀ base : Heap, DefN l.prog w K mg base CX0 3 "normal" ["early", "begin", "length", "offsets"] (spNormal K C) := fun base => ⟨f8, _, PySem.W.mg_of X G a8, k8, O8 base, b8⟩
  have O9 : ∀ base : Heap, FnOk l.prog w K mg base CX0 5 f9 _ ["ticks"] (spRowOfTicks K C) := fun base => okProw_of_ticks F9 T c b R (D8 base)
  have D9 : ∀ base : Heap, DefN l.prog w K mg base CX0 5 "row_of_ticks" ["ticks"] (spRowOfTicks K C) := fun base => ⟨f9, _, PySem.W.mg_of X G a9, k9, O9 base, b9⟩
  have O10 : ∀ base : Heap, FnOk l.prog w K mg base CX0 1 f10 _ ["numbers"] (spTicksOf K) := fun base => okPticks_of F10 T c b R 
  have D10 : ∀ base : Heap, DefN l.prog w K mg base CX0 1 "ticks_of" ["numbers"] (spTicksOf K) := fun base => ⟨f10, _, PySem.W.mg_of X G a10, k10, O10 base, b10⟩
  have O11 : ∀ base : Heap, FnOk l.prog w K mg base CX0 5 f11 _ ["start", "first", "laps"] (spRowOfLaps K C) := fun base => okProw_of_laps F11 T c b R (D10 base) (D8 base)
  have D11 : ∀ base : Heap, DefN l.prog w K mg base CX0 5 "row_of_laps" ["start", "first", "laps"] (spRowOfLaps K C) := fun base => ⟨f11, _, PySem.W.mg_of X G a11, k11, O11 base, b11⟩
  have O12 : ∀ base : Heap, FnOk l.prog w K mg base CX0 6 f12 _ ["cls", "text"] (spParse K C) := fun base => okRparse F12 T c b R (D5 base) (D6 base) (D9 base) (D10 base) (D11 base)
  have D12 : ∀ base : Heap, CmN l.prog w K mg base CX0 6 C "parse" (spParse K C) := fun base => ⟨.type "type", p12, f12, ⟨cr1, cr2⟩, ⟨a12, ⟨rs12, i12⟩, n12⟩, by have z := (O12 base).raw b12 .nil; simpa only [List.append_nil] using z⟩
  have O13 : ∀ base : Heap, FnOk l.prog w K mg base CX0 8 f13 _ ["_law_plan_here"] (spU K C upLawRow) := fun base => okLrow F13 T c b R ((D12 base).imp fun _ _ _ _ => ad_parse)
  have D13 : ∀ base : Heap, DefN l.prog w K mg base CX0 8 "_law_row" ["_law_plan_here"] (spU K C upLawRow) := fun base => ⟨f13, _, PySem.W.mg_of X G a13, k13, O13 base, b13⟩
  have O14 : ∀ base : Heap, FnOk l.prog w K mg base CX0 1 f14 _ ["one", "other"] (spGcd) := fun base => okPcommon_divisor F14 T c b R 
  have D14 : ∀ base : Heap, DefN l.prog w K mg base CX0 1 "common_divisor" ["one", "other"] (spGcd) := fun base => ⟨f14, _, PySem.W.mg_of X G a14, k14, O14 base, b14⟩
  have O15 : ∀ base : Heap, FnOk l.prog w K mg base CX0 1 f15 _ ["self", "end"] (spTicksBefore K C) := fun base => okRticks_before F15 T c b R 
  have D15 : ∀ base : Heap, MetN l.prog w K mg base CX0 1 C "ticks_before" ["self", "end"] (spTicksBefore K C) := fun base => ⟨f15, _, a15, i15, n15, k15, O15 base, b15⟩
  have O16 : ∀ base : Heap, FnOk l.prog w K mg base CX0 4 f16 _ ["one", "other", "in_both", "in_one", "in_other"] (spCombined K C) := fun base => okPcombined F16 T c b R (D14 base) (D15 base) (D8 base)
  have D16 : ∀ base : Heap, DefN l.prog w K mg base CX0 4 "combined" ["one", "other", "in_both", "in_one", "in_other"] (spCombined K C) := fun base => ⟨f16, _, PySem.W.mg_of X G a16, k16, O16 base, b16⟩
  have O17 : ∀ base : Heap, FnOk l.prog w K mg base CX0 5 f17 _ ["self", "other"] (spAdd K C) := fun base => okRadd F17 T c b R (D16 base)
  have D17 : ∀ base : Heap, MetN l.prog w K mg base CX0 5 C "__add__" ["self", "other"] (spAdd K C) := fun base => ⟨f17, _, a17, i17, n17, k17, O17 base, b17⟩
  have O18 : ∀ base : Heap, FnOk l.prog w K mg base CX0 5 f18 _ ["self", "other"] (spAnd K C) := fun base => okRand F18 T c b R (D16 base)
  have D18 : ∀ base : Heap, MetN l.prog w K mg base CX0 5 C "__and__" ["self", "other"] (spAnd K C) := fun base => ⟨f18, _, a18, i18, n18, k18, O18 base, b18⟩
  have O19 : ∀ base : Heap, FnOk l.prog w K mg base CX0 5 f19 _ ["self", "other"] (spSub K C) := fun base => okRsub F19 T c b R (D16 base)
  have D19 : ∀ base : Heap, MetN l.prog w K mg base CX0 5 C "__sub__" ["self", "other"] (spSub K C) := fun base => ⟨f19, _, a19, i19, n19, k19, O19 base, b19⟩
  have O20 : ∀ base : Heap, FnOk l.prog w K mg base CX0 1 f20 _ ["_law_value_here", "_law_tick"] (spU K C upAt) := fun base => okLat F20 T c b R 
  have D20 : ∀ base : Heap, DefN l.prog w K mg base CX0 1 "_law_at" ["_law_value_here", "_law_tick"] (spU K C upAt) := fun base => ⟨f20, _, PySem.W.mg_of X G a20, k20, O20 base, b20⟩
  have O21 : ∀ base : Heap, FnOk l.prog w K mg base CX0 2 f21 _ ["_law_one", "_law_other", "_law_word"] (spU K C upBoth) := fun base => okLboth F21 T c b R (D20 base)
  have D21 : ∀ base : Heap, DefN l.prog w K mg base CX0 2 "_law_both" ["_law_one", "_law_other", "_law_word"] (spU K C upBoth) := fun base => ⟨f21, _, PySem.W.mg_of X G a21, k21, O21 base, b21⟩
  have O22 : ∀ base : Heap, FnOk l.prog w K mg base CX0 2 f22 _ ["_law_value_here", "_law_known", "_law_tick", "_law_size"] (spU K C upSame) := fun base => okLsame F22 T c b R (D20 base)
  have D22 : ∀ base : Heap, DefN l.prog w K mg base CX0 2 "_law_same" ["_law_value_here", "_law_known", "_law_tick", "_law_size"] (spU K C upSame) := fun base => ⟨f22, _, PySem.W.mg_of X G a22, k22, O22 base, b22⟩
  have O23 : ∀ base : Heap, FnOk l.prog w K mg base CX0 3 f23 _ ["_law_value_here"] (spU K C upLawNormal) := fun base => okLnormal F23 T c b R (D22 base) (D20 base)
  have D23 : ∀ base : Heap, DefN l.prog w K mg base CX0 3 "_law_normal" ["_law_value_here"] (spU K C upLawNormal) := fun base => ⟨f23, _, PySem.W.mg_of X G a23, k23, O23 base, b23⟩
  have E24_0 : ∀ base : Heap, DefN l.prog w K mg base CX0 1 "_law_equal" ["_law_actual", "_law_expected"] (spU K C (upEqual0 0)) := fun base => ⟨f24, _, PySem.W.mg_of X G a24, k24, okLequalZ F24 T c b R, b24⟩
  have E24_1 : ∀ base : Heap, DefN l.prog w K mg base CX0 2 "_law_equal" ["_law_actual", "_law_expected"] (spU K C (upEqual0 1)) := fun base => ⟨f24, _, PySem.W.mg_of X G a24, k24, okLequal0 F24 T c b R (E24_0 base), b24⟩
  have E24_2 : ∀ base : Heap, DefN l.prog w K mg base CX0 3 "_law_equal" ["_law_actual", "_law_expected"] (spU K C (upEqual0 2)) := fun base => ⟨f24, _, PySem.W.mg_of X G a24, k24, okLequal1 F24 T c b R (E24_1 base), b24⟩
  have E24_3 : ∀ base : Heap, DefN l.prog w K mg base CX0 4 "_law_equal" ["_law_actual", "_law_expected"] (spU K C (upEqual0 3)) := fun base => ⟨f24, _, PySem.W.mg_of X G a24, k24, okLequal2 F24 T c b R (E24_2 base), b24⟩
  have D24 : ∀ base : Heap, DefN l.prog w K mg base CX0 5 "_law_equal" ["_law_actual", "_law_expected"] (spU K C (upEqualN 3)) := fun base => ⟨f24, _, PySem.W.mg_of X G a24, k24, okLequal3 F24 T c b R (E24_3 base), b24⟩
  have O25 : ∀ base : Heap, FnOk l.prog w K mg base CX0 1 f25 _ ["self"] (spFlaps K C) := fun base => okRfirst_laps F25 T c b R 
  have D25 : ∀ base : Heap, PropN l.prog w K mg base CX0 1 C "first_laps" (spFlaps K C) := fun base => ⟨p25, f25, _, ⟨a25, b25_0, b25_1, ⟨rs25, b25_2⟩⟩, O25 base, b25⟩
  have O26 : ∀ base : Heap, FnOk l.prog w K mg base CX0 1 f26 _ ["self"] (spLaps K C) := fun base => okRlaps F26 T c b R 
  have D26 : ∀ base : Heap, PropN l.prog w K mg base CX0 1 C "laps" (spLaps K C) := fun base => ⟨p26, f26, _, ⟨a26, b26_0, b26_1, ⟨rs26, b26_2⟩⟩, O26 base, b26⟩
  have O27 : ∀ base : Heap, FnOk l.prog w K mg base CX0 3 f27 _ ["self"] (spText K C) := fun base => okRtext F27 T c b R (D25 base) (D26 base)
  have D27 : ∀ base : Heap, PropN l.prog w K mg base CX0 3 C "text" (spText K C) := fun base => ⟨p27, f27, _, ⟨a27, b27_0, b27_1, ⟨rs27, b27_2⟩⟩, O27 base, b27⟩
  have O28 : ∀ base : Heap, FnOk l.prog w K mg base CX0 1 f28 _ ["self"] (spRep K C) := fun base => okRrepetition F28 T c b R 
  have D28 : ∀ base : Heap, PropN l.prog w K mg base CX0 1 C "repetition" (spRep K C) := fun base => ⟨p28, f28, _, ⟨a28, b28_0, b28_1, ⟨rs28, b28_2⟩⟩, O28 base, b28⟩
  have O29 : ∀ base : Heap, FnOk l.prog w K mg base CX0 4 f29 _ ["_law_value_here"] (spU K C upLawText) := fun base => okLtext F29 T c b R (D23 base)
  have D29 : ∀ base : Heap, DefN l.prog w K mg base CX0 4 "_law_text" ["_law_value_here"] (spU K C upLawText) := fun base => ⟨f29, _, PySem.W.mg_of X G a29, k29, O29 base, b29⟩
  have O30 : ∀ base : Heap, FnOk l.prog w K mg base CX0 1 f30 _ ["self"] (spBool K C) := fun base => okRbool F30 T c b R 
  have D30 : ∀ base : Heap, MetN l.prog w K mg base CX0 1 C "__bool__" ["self"] (spBool K C) := fun base => ⟨f30, _, a30, i30, n30, k30, O30 base, b30⟩
  have O31 : ∀ base : Heap, FnOk l.prog w K mg base CX0 1 f31 _ ["self"] (spEndless K C) := fun base => okRis_endless F31 T c b R 
  have D31 : ∀ base : Heap, PropN l.prog w K mg base CX0 1 C "is_endless" (spEndless K C) := fun base => ⟨p31, f31, _, ⟨a31, b31_0, b31_1, ⟨rs31, b31_2⟩⟩, O31 base, b31⟩
  refine ⟨_, fun s v => .of_eq rfl, fun base _ _ => okPlaw F32 T c b R (D0 base) ((D3 base).imp fun _ _ _ _ => ad_plan) (D4 base) (D13 base) ((D17 base).imp fun _ _ _ _ => ad_add) ((D18 base).imp fun _ _ _ _ => ad_and) ((D19 base).imp fun _ _ _ _ => ad_sub) (D21 base) (D23 base) (D24 base) ((D27 base).imp fun _ _ _ _ => ad_text) ((D28 base).imp fun _ _ _ _ => ad_rep) (D29 base) ((D30 base).imp fun _ _ _ _ => ad_bool) ((D31 base).imp fun _ _ _ _ => ad_endless) ((D12 base).imp fun _ _ _ _ => ad_parse)⟩
theorem walk {l : PySem.W.OpenLaw} {q : Program} {loose : List Str} {XP : (Str → Option Value) → Heap → Prop} {YP : World → Heap → Prop} {d : DefRec} {K : Params → PySem.W.Frag} (hn : l.most = some 63) (hdf : d.params.defaults = [])
    (hY : ∀ (w : World) (h : Heap), YP w h → (K w.params).In h)
    (F : ∀ (w : World) (mg : Str → Option Value) (fa : Addr) (h : Heap), (K w.params).In h → h.Ns mainGlobals mg → mg d.name = some (.ref fa) →
      ∃ fd : FuncData, (∀ (s : Shared) (u : Value), BindsTo s fd ⟨[u], []⟩ [("_law_script", u)]) ∧ ∀ base : Heap, (K w.params).In base → base.Ns mainGlobals mg → FnOk l.prog w (K w.params) mg base CX0 9 fa fd ["_law_script"] (spLaw (K w.params))) :
    PySem.W.WalkO q loose XP YP l.row.toRowW d [] (fun f vs => PySem.call f vs) :=
  L2.walk_of (n := 63) (k := 9) (x := "_law_script") (CX := fun _ => CX0) (sp := fun w => spLaw (K w.params)) hn (by decide) hdf ⟨rfl, by decide, by decide⟩ hY F (fun _ _ a ns hl _ hS => ⟨a, ns, rfl, hS, hl, fun _ => rfl⟩) fun _ _ _ _ _ z => z
end
end TkL
open PySem PySem.W PyProof.Rows in
set_option maxRecDepth 100000 in
set_option maxHeartbeats 0 in
theorem PySem.Challenge.cw_tracktimes_k03_joined_rows_holds : PySem.Challenge.rw_tracktimes_k03_joined_rows.Holds := by
  w_on; o_law; k_head; (case hw => w_witness2)
  k_fill
  refine TkL.walk (l := PySem.Challenge.rw_tracktimes_k03_joined_rows) rfl rfl (fun w h Y => PySem.W.kIn_of Y) ?F
  case F =>
    intro w mg fa h KX G hmg
    refine' TkL.all_mk KX G hmg ?aC ?a0 ?l0 ?c0 ?k0 ?a1 ?l1 ?c1 ?k1 ?a2 ?l2 ?c2 ?k2 ?a3 ?l3 ?c3 ?k3 ?a4 ?l4 ?c4 ?k4 ?a5 ?i5 ?n5 ?l5 ?c5 ?k5 ?a6 ?l6 ?c6 ?k6 ?a7 ?l7 ?c7 ?k7 ?a8 ?l8 ?c8 ?k8 ?a9 ?l9 ?c9 ?k9 ?a10 ?l10 ?c10 ?k10 ?a11 ?l11 ?c11 ?k11 ?a12 ?i12 ?n12 ?l12 ?c12 ?k12 ?a13 ?l13 ?c13 ?k13 ?a14 ?l14 ?c14 ?k14 ?a15 ?i15 ?n15 ?l15 ?c15 ?k15 ?a16 ?l16 ?c16 ?k16 ?a17 ?i17 ?n17 ?l17 ?c17 ?k17 ?a18 ?i18 ?n18 ?l18 ?c18 ?k18 ?a19 ?i19 ?n19 ?l19 ?c19 ?k19 ?a20 ?l20 ?c20 ?k20 ?a21 ?l21 ?c21 ?k21 ?a22 ?l22 ?c22 ?k22 ?a23 ?l23 ?c23 ?k23 ?a24 ?l24 ?c24 ?k24 ?a25 ?b25_0 ?b25_1 ?b25_2 ?l25 ?c25 ?k25 ?a26 ?b26_0 ?b26_1 ?b26_2 ?l26 ?c26 ?k26 ?a27 ?b27_0 ?b27_1 ?b27_2 ?l27 ?c27 ?k27 ?a28 ?b28_0 ?b28_1 ?b28_2 ?l28 ?c28 ?k28 ?a29 ?l29 ?c29 ?k29 ?a30 ?i30 ?n30 ?l30 ?c30 ?k30 ?a31 ?b31_0 ?b31_1 ?b31_2 ?l31 ?c31 ?k31 ?a32 ?l32 ?c32 ?k32 ?pg ?hdd ?po ?sa ?mk ?kc ?sf ?nsq ?ne1 ?ne2 ?x1 ?x2 ?x3 ?x4 ?cr1 ?cr2 ?na_early ?na_begin ?na_length ?na_offsets ?na_marks ?na_parts ?z_range ?z_len ?z_isinstance ?z_bool ?z_int ?z_list ?z_tuple ?z_str ?z_sum ?z_all ?z_any ?z_sorted ?z_dict ?z_max ?z_min ?z_divmod ?z_abs ?z_enumerate ?v_MAX_TICK ?v_MAX_LENGTH ?v_MAX_BEGIN ?v_DIGITS ?v_MAX_DIGITS ?v_NEVER ?v_BAR
    (case aC => k_is)
    (case a0 => k_is)
    (case l0 => k_is)
    (case c0 => k_is)
    (case k0 => k_is)
    (case a1 => k_is)
    (case l1 => k_is)
    (case c1 => k_is)
    (case k1 => k_is)
    (case a2 => k_is)
    (case l2 => k_is)
    (case c2 => k_is)
    (case k2 => k_is)
    (case a3 => k_is)
    (case l3 => k_is)
    (case c3 => k_is)
    (case k3 => k_is)
    (case a4 => k_is)
    (case l4 => k_is)
    (case c4 => k_is)
    (case k4 => k_is)
    (case a5 => k_is)
    (case i5 => k_is)
    (case n5 => k_is)
    (case l5 => k_is)
    (case c5 => k_is)
    (case k5 => k_is)
    (case a6 => k_is)
    (case l6 => k_is)
    (case c6 => k_is)
    (case k6 => k_is)
    (case a7 => k_is)
    (case l7 => k_is)
    (case c7 => k_is)
    (case k7 => k_is)
    (case a8 => k_is)
    (case l8 => k_is)
    (case c8 => k_is)
    (case k8 => k_is)
    (case a9 => k_is)
    (case l9 => k_is)
    (case c9 => k_is)
    (case k9 => k_is)
    (case a10 => k_is)
    (case l10 => k_is)
    (case c10 => k_is)
    (case k10 => k_is)
    (case a11 => k_is)
    (case l11 => k_is)
    (case c11 => k_is)
    (case k11 => k_is)
    (case a12 => k_is)
    (case i12 => k_is)
    (case n12 => k_is)
    (case l12 => k_is)
    (case c12 => k_is)
    (case k12 => k_is)
    (case a13 => k_is)
    (case l13 => k_is)
    (case c13 => k_is)
    (case k13 => k_is)
    (case a14 => k_is)
    (case l14 => k_is)
    (case c14 => k_is)
    (case k14 => k_is)
    (case a15 => k_is)
    (case i15 => k_is)
    (case n15 => k_is)
    (case l15 => k_is)
    (case c15 => k_is)
    (case k15 => k_is)
    (case a16 => k_is)
    (case l16 => k_is)
    (case c16 => k_is)
    (case k16 => k_is)
    (case a17 => k_is)
    (case i17 => k_is)
    (case n17 => k_is)
    (case l17 => k_is)
    (case c17 => k_is)
    (case k17 => k_is)
    (case a18 => k_is)
    (case i18 => k_is)
    (case n18 => k_is)
    (case l18 => k_is)
    (case c18 => k_is)
    (case k18 => k_is)
    (case a19 => k_is)
    (case i19 => k_is)
    (case n19 => k_is)
    (case l19 => k_is)
    (case c19 => k_is)
    (case k19 => k_is)
    (case a20 => k_is)
    (case l20 => k_is)
    (case c20 => k_is)
    (case k20 => k_is)
    (case a21 => k_is)
    (case l21 => k_is)
    (case c21 => k_is)
    (case k21 => k_is)
    (case a22 => k_is)
    (case l22 => k_is)
    (case c22 => k_is)
    (case k22 => k_is)
    (case a23 => k_is)
    (case l23 => k_is)
    (case c23 => k_is)
    (case k23 => k_is)
    (case a24 => k_is)
    (case l24 => k_is)
    (case c24 => k_is)
    (case k24 => k_is)
    (case a25 => k_is)
    (case b25_0 => k_is)
    (case b25_1 => k_is)
    (case b25_2 => k_is)
    (case l25 => k_is)
    (case c25 => k_is)
    (case k25 => k_is)
    (case a26 => k_is)
    (case b26_0 => k_is)
    (case b26_1 => k_is)
    (case b26_2 => k_is)
    (case l26 => k_is)
    (case c26 => k_is)
    (case k26 => k_is)
    (case a27 => k_is)
    (case b27_0 => k_is)
    (case b27_1 => k_is)
    (case b27_2 => k_is)
    (case l27 => k_is)
    (case c27 => k_is)
    (case k27 => k_is)
    (case a28 => k_is)
    (case b28_0 => k_is)
    (case b28_1 => k_is)
    (case b28_2 => k_is)
    (case l28 => k_is)
    (case c28 => k_is)
    (case k28 => k_is)
    (case a29 => k_is)
    (case l29 => k_is)
    (case c29 => k_is)
    (case k29 => k_is)
    (case a30 => k_is)
    (case i30 => k_is)
    (case n30 => k_is)
    (case l30 => k_is)
    (case c30 => k_is)
    (case k30 => k_is)
    (case a31 => k_is)
    (case b31_0 => k_is)
    (case b31_1 => k_is)
    (case b31_2 => k_is)
    (case l31 => k_is)
    (case c31 => k_is)
    (case k31 => k_is)
    (case a32 => k_is)
    (case l32 => k_is)
    (case c32 => k_is)
    (case k32 => k_is)
    (case pg => k_is)
    (case hdd => k_is)
    (case po => k_is)
    (case sa => k_is)
    (case mk => k_is)
    (case kc => k_is)
    (case sf => k_is)
    (case nsq => k_is)
    (case ne1 => k_is)
    (case ne2 => k_is)
    (case x1 => k_is)
    (case x2 => k_is)
    (case x3 => k_is)
    (case x4 => k_is)
    (case cr1 => k_is)
    (case cr2 => k_is)
    (case na_early => k_is)
    (case na_begin => k_is)
    (case na_length => k_is)
    (case na_offsets => k_is)
    (case na_marks => k_is)
    (case na_parts => k_is)
    (case z_range => k_is)
    (case z_len => k_is)
    (case z_isinstance => k_is)
    (case z_bool => k_is)
    (case z_int => k_is)
    (case z_list => k_is)
    (case z_tuple => k_is)
    (case z_str => k_is)
    (case z_sum => k_is)
    (case z_all => k_is)
    (case z_any => k_is)
    (case z_sorted => k_is)
    (case z_dict => k_is)
    (case z_max => k_is)
    (case z_min => k_is)
    (case z_divmod => k_is)
    (case z_abs => k_is)
    (case z_enumerate => k_is)
    (case v_MAX_TICK => k_is)
    (case v_MAX_LENGTH => k_is)
    (case v_MAX_BEGIN => k_is)
    (case v_DIGITS => k_is)
    (case v_MAX_DIGITS => k_is)
    (case v_NEVER => k_is)
    (case v_BAR => k_is)

