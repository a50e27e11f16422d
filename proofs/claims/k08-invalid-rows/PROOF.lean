import PyProof.Rows.All
import Wide.All
import OpenK.AllK
import Wide.FinOn
import PyProof.InstNe
import HandS.ForMost
import HandS.Property
import HandS.ClsMeth
import HandS.Star
import HandS.IsInst
import HandS.TupAny
import HandS.TupMul
import HandS.FStr
import HandS.SortInts
import HandS.DictComp
import KE.GoesEnum
import HandS.Style
import HandS.Steps
import HandS.Flow
import HandS.Codes
import KE.KTupSum
import HandS.NoneIn
import HandS.Lambda
import HandS.GenList
import HandS.ExcOwn
import HandS.ExcIs
import HandS.SetFor
import HandS.WordsExc
import HandS.EndOwn
import HandS.Conv
import KE.KDflt
import HandS.Small
import HandS.More
import HandS.SuiteRaise
import KE.KExcRaise
import HandS.ExcCtx
import HandS.HotCalls
import HandS.ExcInit
import HandS.ExcField
import HandS.Dict
import HandS.ListEq
import HandS.OwnEq
import PyProof.Rows.StrMeet
import PyProof.Rows.MatchSeqLen
import PyProof.Rows.TupIter
import PySem.Challenge.RW_tracktimes_k08_invalid_rows
set_option Elab.async false
set_option linter.all false
set_option maxRecDepth 100000
set_option maxHeartbeats 4000000
namespace Tk
structure RV where
  early : List Int
  beg : Int
  len : Int
  offs : List Int
  deriving DecidableEq

def qhas (e : List Int) (b l : Int) (o : List Int) (t : Int) : Bool := if t < b then decide (t ∈ e) else decide ((t - b) % l ∈ o)
def RV.has (r : RV) (t : Int) : Bool := qhas r.early r.beg r.len r.offs t

structure WF (e : List Int) (b l : Int) (o : List Int) : Prop where
  es : e.Pairwise (· < ·)
  er : ∀ x ∈ e, 0 ≤ x ∧ x < b
  b0 : 0 ≤ b
  l1 : 1 ≤ l
  os : o.Pairwise (· < ·)
  ow : ∀ x ∈ o, 0 ≤ x ∧ x < l

def Per (S : Int → Bool) (b n : Int) : Prop := ∀ t, b ≤ t → S t = S (t + n)

structure Canon (r : RV) : Prop where
  wf : WF r.early r.beg r.len r.offs
  ml : ∀ n b, 1 ≤ n → Per r.has b n → r.len ≤ n
  mb : ∀ b, 0 ≤ b → Per r.has b r.len → r.beg ≤ b

theorem qhas_lo {e o : List Int} {b l t : Int} (h : t < b) : qhas e b l o t = decide (t ∈ e) := by
  unfold qhas; rw [if_pos h]
theorem qhas_hi {e o : List Int} {b l t : Int} (h : b ≤ t) : qhas e b l o t = decide ((t - b) % l ∈ o) := by
  unfold qhas; rw [if_neg (by omega)]
theorem qhas_neg {e o : List Int} {b l t : Int} (w : WF e b l o) (h : t < 0) : qhas e b l o t = false := by
  have hb := w.b0
  rw [qhas_lo (by omega)]
  refine decide_eq_false fun hm => ?_
  have := (w.er t hm).1
  omega
theorem qhas_per {e o : List Int} {b l : Int} (hl : 1 ≤ l) : Per (qhas e b l o) b l := by
  intro t h
  rw [qhas_hi h, qhas_hi (by omega)]
  have : (t + l - b) % l = (t - b) % l := by
    have e1 : t + l - b = (t - b) + l := by omega
    rw [e1, Int.add_emod_right]
  rw [this]

theorem Per.up {S : Int → Bool} {b c n : Int} (h : Per S b n) (hc : b ≤ c) : Per S c n := fun t ht => h t (by omega)
theorem Per.mulN {S : Int → Bool} {b n : Int} (hn : 0 ≤ n) (h : Per S b n) : ∀ k : Nat, Per S b (n * (k : Int))
  | 0 => fun t _ => by simp
  | k + 1 => fun t ht => by
    have ih := Per.mulN hn h k t ht
    have hk : 0 ≤ n * (k : Int) := Int.mul_nonneg hn (Int.natCast_nonneg k)
    have h2 := h (t + n * (k : Int)) (by omega)
    have e : t + n * ((k + 1 : Nat) : Int) = t + n * (k : Int) + n := by
      rw [Int.natCast_add, Int.mul_add]; simp; omega
    rw [e, ← h2, ih]
theorem Per.mul {S : Int → Bool} {b n k : Int} (hn : 0 ≤ n) (hk : 0 ≤ k) (h : Per S b n) : Per S b (n * k) := by
  have := Per.mulN hn h k.toNat
  rwa [Int.toNat_of_nonneg hk] at this
theorem Per.rem {S : Int → Bool} {b m n : Int} (hn : 1 ≤ n) (hm : 0 ≤ m) (h1 : Per S b m) (h2 : Per S b n) : Per S b (m % n) := by
  have hq : 0 ≤ m / n := Int.ediv_nonneg hm (by omega)
  have hr : 0 ≤ m % n := Int.emod_nonneg m (by omega)
  have h3 := Per.mul (k := m / n) (by omega) hq h2
  have e : n * (m / n) + m % n = m := Int.mul_ediv_add_emod m n
  intro t ht
  have a := h1 t ht
  have c := h3 (t + m % n) (by omega)
  have e2 : t + m % n + n * (m / n) = t + m := by omega
  rw [e2] at c
  rw [a, c]
theorem Per.congr {S T : Int → Bool} {b n : Int} (hb : 0 ≤ b) (hn : 0 ≤ n) (h : ∀ t, 0 ≤ t → S t = T t) (p : Per S b n) : Per T b n := fun t ht => by
  rw [← h t (by omega), ← h (t + n) (by omega)]
  exact p t ht

theorem sorted_ext : ∀ {l m : List Int}, l.Pairwise (· < ·) → m.Pairwise (· < ·) → (∀ x, x ∈ l ↔ x ∈ m) → l = m
  | [], [], _, _, _ => rfl
  | [], y :: m, _, _, h => absurd ((h y).mpr List.mem_cons_self) List.not_mem_nil
  | x :: l, [], _, _, h => absurd ((h x).mp List.mem_cons_self) List.not_mem_nil
  | x :: l, y :: m, hl, hm, h => by
    have hl' := List.pairwise_cons.mp hl
    have hm' := List.pairwise_cons.mp hm
    have e : x = y := by
      have h1 := (h x).mp List.mem_cons_self
      have h2 := (h y).mpr List.mem_cons_self
      rcases List.mem_cons.mp h1 with e | h1
      · exact e
      · rcases List.mem_cons.mp h2 with e | h2
        · exact e.symm
        · have a := hl'.1 y h2
          have c := hm'.1 x h1
          omega
    subst e
    refine congrArg (x :: ·) (sorted_ext hl'.2 hm'.2 fun z => ⟨fun hz => ?_, fun hz => ?_⟩)
    · rcases List.mem_cons.mp ((h z).mp (List.mem_cons_of_mem _ hz)) with e | q
      · subst e
        have := hl'.1 z hz
        omega
      · exact q
    · rcases List.mem_cons.mp ((h z).mpr (List.mem_cons_of_mem _ hz)) with e | q
      · subst e
        have := hm'.1 z hz
        omega
      · exact q
theorem RV.has_lo {r : RV} {t : Int} (h : t < r.beg) : r.has t = decide (t ∈ r.early) := qhas_lo h
theorem RV.has_hi {r : RV} {t : Int} (h : r.beg ≤ t) : r.has t = decide ((t - r.beg) % r.len ∈ r.offs) := qhas_hi h
theorem RV.has_off {r : RV} (w : WF r.early r.beg r.len r.offs) {x : Int} (h0 : 0 ≤ x) (h1 : x < r.len) : r.has (r.beg + x) = decide (x ∈ r.offs) := by
  rw [RV.has_hi (by omega)]
  have e : r.beg + x - r.beg = x := by omega
  rw [e, Int.emod_eq_of_lt h0 h1]
theorem RV.ext' {r s : RV} (h1 : r.early = s.early) (h2 : r.beg = s.beg) (h3 : r.len = s.len) (h4 : r.offs = s.offs) : r = s := by
  cases r; cases s; simp only at h1 h2 h3 h4; subst h1 h2 h3 h4; rfl
theorem canon_unique {r s : RV} (cr : Canon r) (cs : Canon s) (h : ∀ t, 0 ≤ t → r.has t = s.has t) : r = s := by
  have h' : ∀ t, 0 ≤ t → s.has t = r.has t := fun t ht => (h t ht).symm
  have l1 := cr.wf.l1
  have l2 := cs.wf.l1
  have b1 := cr.wf.b0
  have b2 := cs.wf.b0
  have pr : Per r.has r.beg r.len := qhas_per l1
  have ps : Per s.has s.beg s.len := qhas_per l2
  have el : r.len = s.len := Int.le_antisymm (cr.ml _ _ l2 (ps.congr b2 (by omega) h')) (cs.ml _ _ l1 (pr.congr b1 (by omega) h))
  have eb : r.beg = s.beg := Int.le_antisymm (cr.mb _ b2 (by rw [el]; exact ps.congr b2 (by omega) h')) (cs.mb _ b1 (by rw [← el]; exact pr.congr b1 (by omega) h))
  refine RV.ext' (sorted_ext cr.wf.es cs.wf.es fun x => ?_) eb el (sorted_ext cr.wf.os cs.wf.os fun x => ?_)
  · constructor
    · intro hx
      have q := cr.wf.er x hx
      have a := h x q.1
      rw [RV.has_lo q.2, RV.has_lo (by omega), decide_eq_true hx] at a
      exact of_decide_eq_true a.symm
    · intro hx
      have q := cs.wf.er x hx
      have a := h x q.1
      rw [RV.has_lo (by omega), RV.has_lo q.2, decide_eq_true hx] at a
      exact of_decide_eq_true a
  · constructor
    · intro hx
      have q := cr.wf.ow x hx
      have a := h (r.beg + x) (by omega)
      rw [RV.has_off cr.wf q.1 q.2, eb, RV.has_off cs.wf q.1 (by omega), decide_eq_true hx] at a
      exact of_decide_eq_true a.symm
    · intro hx
      have q := cs.wf.ow x hx
      have a := h (r.beg + x) (by omega)
      rw [RV.has_off cr.wf q.1 (by omega), eb, RV.has_off cs.wf q.1 q.2, decide_eq_true hx] at a
      exact of_decide_eq_true a
theorem Canon.ext {r s : RV} (cr : Canon r) (cs : Canon s) (h : ∀ t, 0 ≤ t → r.has t = s.has t) : r = s := canon_unique cr cs h

def Closed (l : Int) (o : List Int) (n : Int) : Prop := ∀ x ∈ o, (x + n) % l ∈ o
structure Shortest (l : Int) (o : List Int) (n : Int) : Prop where
  n1 : 1 ≤ n
  nl : n ≤ l
  dv : l % n = 0
  cl : Closed l o n
  mn : ∀ m, 1 ≤ m → m < n → ¬ (l % m = 0 ∧ Closed l o m)
theorem closed_all {l : Int} {o : List Int} (hl : 1 ≤ l) (ow : ∀ x ∈ o, 0 ≤ x ∧ x < l) : Closed l o l := fun x hx => by
  rw [Int.add_emod_right, Int.emod_eq_of_lt (ow x hx).1 (ow x hx).2]
  exact hx
theorem closed_mulN {l n : Int} {o : List Int} (hl : 1 ≤ l) (ow : ∀ x ∈ o, 0 ≤ x ∧ x < l) (c : Closed l o n) : ∀ k : Nat, Closed l o (n * (k : Int))
  | 0 => fun x hx => by
    simp only [Int.natCast_zero, Int.mul_zero, Int.add_zero]
    rw [Int.emod_eq_of_lt (ow x hx).1 (ow x hx).2]
    exact hx
  | k + 1 => fun x hx => by
    have ih := closed_mulN hl ow c k x hx
    have := c _ ih
    rw [Int.emod_add_emod] at this
    have e : x + n * ((k + 1 : Nat) : Int) = x + n * (k : Int) + n := by
      rw [Int.natCast_add, Int.mul_add]; simp; omega
    rw [e]
    exact this
theorem rest_mem {l n : Int} {o : List Int} (hl : 1 ≤ l) (ow : ∀ x ∈ o, 0 ≤ x ∧ x < l) (n1 : 1 ≤ n) (dv : l % n = 0) (c : Closed l o n) {t : Int} :
    t % l ∈ o ↔ ∃ x ∈ o, x % n = t % n := by
  have dl : n ∣ l := Int.dvd_of_emod_eq_zero dv
  constructor
  · intro h
    exact ⟨_, h, Int.emod_emod_of_dvd t dl⟩
  · rintro ⟨x, hx, e⟩
    have hd : n ∣ (t - x) := by
      have : (t - x) % n = 0 := by
        rw [Int.sub_emod, e, Int.sub_self, Int.zero_emod]
      exact Int.dvd_of_emod_eq_zero this
    obtain ⟨k, hk⟩ := hd
    have hj : 0 ≤ k + l * (k.natAbs : Int) := by
      have h1 : (k.natAbs : Int) * 1 ≤ (k.natAbs : Int) * l := Int.mul_le_mul_of_nonneg_left hl (Int.natCast_nonneg _)
      rw [Int.mul_comm l]
      omega
    have := closed_mulN hl ow c (k + l * (k.natAbs : Int)).toNat x hx
    rw [Int.toNat_of_nonneg hj] at this
    have e2 : x + n * (k + l * (k.natAbs : Int)) = t + l * (n * (k.natAbs : Int)) := by
      rw [Int.mul_add]
      have : n * (l * (k.natAbs : Int)) = l * (n * (k.natAbs : Int)) := by
        rw [← Int.mul_assoc, ← Int.mul_assoc, Int.mul_comm n l]
      rw [this]
      omega
    rw [e2, Int.add_mul_emod_self_left] at this
    exact this
theorem closed_of_per {e o : List Int} {b l n c : Int} (w : WF e b l o) (n1 : 1 ≤ n) (p : Per (qhas e b l o) c n) : Closed l o n := fun x hx => by
  have hl := w.l1
  have q := w.ow x hx
  have hk : 0 ≤ (c.natAbs : Int) := Int.natCast_nonneg _
  have hm : (c.natAbs : Int) * 1 ≤ (c.natAbs : Int) * l := Int.mul_le_mul_of_nonneg_left hl hk
  have hb0 := w.b0
  have hc : c ≤ b + x + l * (c.natAbs : Int) := by rw [Int.mul_comm l]; omega
  have hb : b ≤ b + x + l * (c.natAbs : Int) := by rw [Int.mul_comm l]; omega
  have a := p _ hc
  rw [qhas_hi hb, qhas_hi (by omega)] at a
  have e1 : (b + x + l * (c.natAbs : Int) - b) % l = x := by
    have : b + x + l * (c.natAbs : Int) - b = x + l * (c.natAbs : Int) := by omega
    rw [this, Int.add_mul_emod_self_left, Int.emod_eq_of_lt q.1 q.2]
  have e2 : (b + x + l * (c.natAbs : Int) + n - b) % l = (x + n) % l := by
    have : b + x + l * (c.natAbs : Int) + n - b = (x + n) + l * (c.natAbs : Int) := by omega
    rw [this, Int.add_mul_emod_self_left]
  rw [e1, e2, decide_eq_true hx] at a
  exact of_decide_eq_true a.symm
theorem shortest_least {e o : List Int} {b l n : Int} (w : WF e b l o) (s : Shortest l o n) : ∀ (k : Nat) (m c : Int), m.toNat = k → 1 ≤ m → Per (qhas e b l o) c m → n ≤ m := by
  intro k
  induction k using Nat.strongRecOn with
  | ind k ih =>
    intro m c hk hm p
    have hl := w.l1
    have hr0 : 0 ≤ l % m := Int.emod_nonneg l (by omega)
    have hr1 : l % m < m := Int.emod_lt_of_pos l (by omega)
    by_cases hr : l % m = 0
    · have cl := closed_of_per w hm p
      rcases Int.lt_or_le m n with h | h
      · exact absurd ⟨hr, cl⟩ (s.mn m hm h)
      · exact h
    · have pl : Per (qhas e b l o) (max b c) l := (qhas_per hl).up (by omega)
      have pm : Per (qhas e b l o) (max b c) m := p.up (by omega)
      have pr := Per.rem hm (by omega) pl pm
      have := ih (l % m).toNat (by omega) (l % m) _ rfl (by omega) pr
      omega
end Tk


namespace Tk
theorem mod_eq_iff {a b n : Int} : a % n = b % n ↔ n ∣ (a - b) := by
  constructor
  · intro h
    exact Int.dvd_of_emod_eq_zero (by rw [Int.sub_emod, h, Int.sub_self, Int.zero_emod])
  · intro h
    have h0 := Int.emod_eq_zero_of_dvd h
    have e : a = b + (a - b) := by omega
    rw [e, Int.add_emod, h0, Int.add_zero, Int.emod_emod]

def cyc (o : List Int) (n t : Int) : Bool := decide (t % n ∈ o.map (· % n))
theorem cyc_iff {o : List Int} {n t : Int} : cyc o n t = true ↔ ∃ x ∈ o, x % n = t % n := by
  unfold cyc
  rw [decide_eq_true_iff, List.mem_map]
theorem cyc_hi {e o : List Int} {b l n t : Int} (w : WF e b l o) (s : Shortest l o n) (h : b ≤ t) : qhas e b l o t = cyc o n (t - b) := by
  rw [qhas_hi h, Bool.eq_iff_iff, decide_eq_true_iff, cyc_iff]
  exact rest_mem w.l1 w.ow s.n1 s.dv s.cl
theorem cyc_per {o : List Int} {n t : Int} : cyc o n (t + n) = cyc o n t := by
  unfold cyc; rw [Int.add_emod_right]

theorem take_lt {e : List Int} {k : Nat} {x c : Int} (hs : ∀ y ∈ e.take k, y < c) (hd : ∀ y ∈ e.drop k, c ≤ y) : x ∈ e.take k ↔ x ∈ e ∧ x < c := by
  constructor
  · intro h
    exact ⟨List.mem_of_mem_take h, hs x h⟩
  · rintro ⟨h, hx⟩
    rw [← List.take_append_drop k e] at h
    rcases List.mem_append.mp h with q | q
    · exact q
    · have := hd x q
      omega
theorem last_early {e : List Int} {k : Nat} {c : Int} (es : e.Pairwise (· < ·)) (hs : ∀ y ∈ e.take k, y < c) (hd : ∀ y ∈ e.drop k, c ≤ y) (hk : k ≤ e.length) :
    (c - 1 ∈ e) ↔ ∃ h : 0 < k, e[k - 1]'(by omega) = c - 1 := by
  constructor
  · intro h
    have hm : c - 1 ∈ e.take k := (take_lt hs hd).mpr ⟨h, by omega⟩
    obtain ⟨i, hi, ei⟩ := List.getElem_of_mem hm
    have hl : (e.take k).length = k := by rw [List.length_take]; omega
    rw [hl] at hi
    refine ⟨by omega, ?_⟩
    have ei' : e[i] = c - 1 := by rw [← ei, List.getElem_take]
    by_cases q : i = k - 1
    · subst q; exact ei'
    · have lt := List.pairwise_iff_getElem.mp es i (k - 1) (by omega) (by omega) (by omega)
      have m2 : e[k - 1] ∈ e.take k := by
        rw [List.mem_take_iff_getElem]
        exact ⟨k - 1, by omega, rfl⟩
      have := hs _ m2
      omega
  · rintro ⟨h, ei⟩
    rw [← ei]
    exact List.getElem_mem _
theorem take_back {e : List Int} {k : Nat} {c : Int} (es : e.Pairwise (· < ·)) (hs : ∀ y ∈ e.take k, y < c) (hd : ∀ y ∈ e.drop k, c ≤ y) (hk : k ≤ e.length) :
    (c - 1 ∈ e → (∀ y ∈ e.take (k - 1), y < c - 1) ∧ (∀ y ∈ e.drop (k - 1), c - 1 ≤ y)) ∧ (c - 1 ∉ e → (∀ y ∈ e.take k, y < c - 1) ∧ (∀ y ∈ e.drop k, c - 1 ≤ y)) := by
  refine ⟨fun h => ?_, fun h => ⟨fun y hy => ?_, fun y hy => ?_⟩⟩
  · obtain ⟨h0, ei⟩ := (last_early es hs hd hk).mp h
    constructor
    · intro y hy
      obtain ⟨i, hi, e1⟩ := List.mem_take_iff_getElem.mp hy
      have := List.pairwise_iff_getElem.mp es i (k - 1) (by omega) (by omega) (by omega)
      omega
    · intro y hy
      obtain ⟨i, hi, e1⟩ := List.mem_drop_iff_getElem.mp hy
      by_cases q : i = 0
      · subst q
        simp only [Nat.add_zero] at e1
        omega
      · have := List.pairwise_iff_getElem.mp es (k - 1) (i + (k - 1)) (by omega) (by omega) (by omega)
        have e2 : e[i + (k - 1)]'(by omega) = y := by rw [← e1]; congr 1; omega
        omega
  · have a := hs y hy
    by_cases q : y = c - 1
    · subst q
      exact absurd (List.mem_of_mem_take hy) h
    · omega
  · have := hd y hy
    omega

theorem normal_canon {e o e' o' : List Int} {b l n c : Int} (w : WF e b l o) (ho : o ≠ []) (s : Shortest l o n) (h0 : 0 ≤ c) (hb : c ≤ b)
    (same : ∀ t, c ≤ t → t < b → decide (t ∈ e) = cyc o n (t - b)) (stop : c = 0 ∨ decide (c - 1 ∈ e) ≠ cyc o n (c - 1 - b))
    (es' : e'.Pairwise (· < ·)) (me : ∀ x, x ∈ e' ↔ x ∈ e ∧ x < c) (os' : o'.Pairwise (· < ·)) (mo : ∀ y, y ∈ o' ↔ ∃ x ∈ o, (x % n + (b - c)) % n = y) :
    Canon ⟨e', c, n, o'⟩ ∧ ∀ t, RV.has ⟨e', c, n, o'⟩ t = qhas e b l o t := by
  have hn := s.n1
  have hi : ∀ t, c ≤ t → qhas e b l o t = cyc o n (t - b) := fun t ht => by
    rcases Int.lt_or_le t b with q | q
    · rw [qhas_lo q]; exact same t ht q
    · exact cyc_hi w s q
  have hi' : ∀ t, c ≤ t → qhas e' c n o' t = cyc o n (t - b) := fun t ht => by
    rw [qhas_hi ht, Bool.eq_iff_iff, decide_eq_true_iff, cyc_iff, mo]
    have key : ∀ x : Int, ((x % n + (b - c)) % n = (t - c) % n) ↔ x % n = (t - b) % n := fun x => by
      rw [Int.emod_add_emod, mod_eq_iff, mod_eq_iff]
      have : x + (b - c) - (t - c) = x - (t - b) := by omega
      rw [this]
    constructor
    · rintro ⟨x, hx, q⟩; exact ⟨x, hx, (key x).mp q⟩
    · rintro ⟨x, hx, q⟩; exact ⟨x, hx, (key x).mpr q⟩
  have eqv : ∀ t, qhas e' c n o' t = qhas e b l o t := fun t => by
    rcases Int.lt_or_le t c with q | q
    · rw [qhas_lo q, qhas_lo (by omega), Bool.eq_iff_iff, decide_eq_true_iff, decide_eq_true_iff, me]
      exact ⟨fun z => z.1, fun z => ⟨z, q⟩⟩
    · rw [hi' t q, hi t q]
  have w' : WF e' c n o' := ⟨es', fun x hx => ⟨(w.er x ((me x).mp hx).1).1, ((me x).mp hx).2⟩, h0, hn, os', fun y hy => by
    obtain ⟨x, _, q⟩ := (mo y).mp hy
    rw [← q]
    exact ⟨Int.emod_nonneg _ (by omega), Int.emod_lt_of_pos _ (by omega)⟩⟩
  have cg : ∀ m d, Per (RV.has ⟨e', c, n, o'⟩) d m → Per (qhas e b l o) d m := fun m d p t ht => by
    rw [← eqv t, ← eqv (t + m)]
    exact p t ht
  refine ⟨⟨w', fun m d hm p => shortest_least w s _ m d rfl hm (cg m d p), fun d hd p => ?_⟩, eqv⟩
  rcases Int.lt_or_le d c with q | q
  · exfalso
    rcases stop with z | z
    · omega
    · have a := cg n d p (c - 1) (by omega)
      have e1 : c - 1 + n - b = (c - 1 - b) + n := by omega
      rw [qhas_lo (by omega), hi (c - 1 + n) (by omega), e1, cyc_per] at a
      exact z a
  · exact q
theorem finite_canon {e : List Int} {b : Int} (es : e.Pairwise (· < ·)) (e0 : ∀ x ∈ e, 0 ≤ x) (hb : (e = [] ∧ b = 0) ∨ ∃ z ∈ e, b = z + 1 ∧ ∀ x ∈ e, x ≤ z) :
    Canon ⟨e, b, 1, []⟩ ∧ ∀ t, RV.has ⟨e, b, 1, []⟩ t = decide (t ∈ e) := by
  have hx : ∀ x ∈ e, 0 ≤ x ∧ x < b := fun x hx => by
    rcases hb with ⟨rfl, _⟩ | ⟨z, _, h2, h3⟩
    · exact absurd hx List.not_mem_nil
    · exact ⟨e0 x hx, by have := h3 x hx; omega⟩
  have b0 : 0 ≤ b := by
    rcases hb with ⟨_, h⟩ | ⟨z, h1, h2, _⟩
    · omega
    · have := e0 z h1; omega
  have eqv : ∀ t, RV.has ⟨e, b, 1, []⟩ t = decide (t ∈ e) := fun t => by
    rcases Int.lt_or_le t b with q | q
    · exact RV.has_lo q
    · rw [RV.has_hi q]
      simp only [List.not_mem_nil, decide_false]
      exact (decide_eq_false fun h => by have := (hx t h).2; omega).symm
  refine ⟨⟨⟨es, hx, b0, Int.le_refl 1, List.Pairwise.nil, fun _ h => absurd h List.not_mem_nil⟩, fun n _ hn _ => hn, fun d hd p => ?_⟩, eqv⟩
  rcases hb with ⟨_, h⟩ | ⟨z, h1, h2, h3⟩
  · show b ≤ d
    omega
  · show b ≤ d
    rcases Int.lt_or_le d b with q | q
    · exfalso
      have up : ∀ k : Nat, z + (k : Int) ∈ e := fun k => by
        induction k with
        | zero => simpa using h1
        | succ k ih =>
          have a := p (z + k) (by omega)
          rw [eqv, eqv, decide_eq_true ih] at a
          have := of_decide_eq_true a.symm
          have e1 : z + ((k + 1 : Nat) : Int) = z + k + 1 := by omega
          rw [e1]; exact this
      have := h3 _ (up 1)
      omega
    · exact q

end Tk


namespace TkL
open PySem PySem.Spec PyProof.Rows L2

structure DefN (P : Program) (w : World) (K : PySem.W.Frag) (mg : Str → Option Value) (base : Heap) (CX : CXT) (k : Nat) (x : Str) (ps : List Str) (sp : Sp) : Prop where
  ex : ∃ f fd, mg x = some (.ref f) ∧ PySem.W.keepIn K (.ref f) = true ∧ FnOk P w K mg base CX k f fd ps sp ∧ Binds K fd ps []
structure MetN (P : Program) (w : World) (K : PySem.W.Frag) (mg : Str → Option Value) (base : Heap) (CX : CXT) (k : Nat) (C : Addr) (m : Str) (ps : List Str) (sp : Sp) : Prop where
  ex : ∃ f fd, PySem.W.findIn K (.ref C) m = some (some (.ref f)) ∧ PySem.W.isFn K (.ref f) = true ∧ PySem.W.fnIn K f = true ∧ PySem.W.keepIn K (.ref f) = true ∧ FnOk P w K mg base CX k f fd ps sp ∧ Binds K fd ps []
structure PropN (P : Program) (w : World) (K : PySem.W.Frag) (mg : Str → Option Value) (base : Heap) (CX : CXT) (k : Nat) (C : Addr) (m : Str) (sp : Sp) : Prop where
  ex : ∃ p g fd, PropOf K C m p g ∧ FnOk P w K mg base CX k g fd ["self"] sp ∧ Binds K fd ["self"] []
structure CmN (P : Program) (w : World) (K : PySem.W.Frag) (mg : Str → Option Value) (base : Heap) (CX : CXT) (k : Nat) (C : Addr) (m : Str) (sp : Sp) : Prop where
  ex : ∃ mc p g, ClX.CRead K C mc ∧ ClX.CMet K C mc m p g ∧ FnR P w K mg base CX k g sp
structure OwnC (K : PySem.W.Frag) (C : Addr) : Prop where
  cl : Cls K C
  sf : PySem.W.selfFirst K C = true
  ns : PySem.W.noSeq K C = true
section
variable {P : Program} {w : World} {K : PySem.W.Frag} {mg : Str → Option Value} {base : Heap} {CX : CXT} {k j : Nat} {C : Addr} {m x : Str} {ps : List Str} {sp sp' : Sp}
theorem DefN.mono (F : DefN P w K mg base CX j x ps sp) (h : j ≤ k) : DefN P w K mg base CX k x ps sp := by
  obtain ⟨f, fd, a, b, c, d⟩ := F.ex
  exact ⟨f, fd, a, b, c.mono h, d⟩
theorem DefN.imp (F : DefN P w K mg base CX k x ps sp) (h : ∀ vs H Q E, sp' vs H Q E → sp vs H Q E) : DefN P w K mg base CX k x ps sp' := by
  obtain ⟨f, fd, a, b, c, d⟩ := F.ex
  exact ⟨f, fd, a, b, c.imp h, d⟩
theorem MetN.raw (F : MetN P w K mg base CX k C m ps sp) : ∃ f, PySem.W.findIn K (.ref C) m = some (some (.ref f)) ∧ PySem.W.isFn K (.ref f) = true ∧ PySem.W.fnIn K f = true ∧ FnR P w K mg base CX k f sp := by
  obtain ⟨f, fd, a, b, c, _, d, e⟩ := F.ex
  refine ⟨f, a, b, c, ?_⟩
  have z := d.raw e .nil
  simpa only [List.append_nil] using z
theorem MetN.mono (F : MetN P w K mg base CX j C m ps sp) (h : j ≤ k) : MetN P w K mg base CX k C m ps sp := by
  obtain ⟨f, fd, a, b, c, d, e, g⟩ := F.ex
  exact ⟨f, fd, a, b, c, d, e.mono h, g⟩
theorem MetN.imp (F : MetN P w K mg base CX k C m ps sp) (h : ∀ vs H Q E, sp' vs H Q E → sp vs H Q E) : MetN P w K mg base CX k C m ps sp' := by
  obtain ⟨f, fd, a, b, c, d, e, g⟩ := F.ex
  exact ⟨f, fd, a, b, c, d, e.imp h, g⟩
end
def tDef (sp : Sp) (E : XK) (t : TA) : TE := fun σ H Q => t σ H fun vs H1 => sp vs H1 Q E
def tPrp (C : Addr) (sp : Sp) (E : XK) (ta : TE) : TE := fun σ H Q => ta σ H fun x H1 => ∃ a dx fs, x = .ref a ∧ H1 a = some (.ins C dx fs) ∧ sp [.ref a] H1 Q E
theorem tCall_nil {sp : Sp} {E : XK} {t : TA} : tCall sp [] E t = tDef sp E t := by
  funext σ H Q
  show t σ H (fun vs H1 => sp (vs ++ []) H1 Q E) = t σ H (fun vs H1 => sp vs H1 Q E)
  simp only [List.append_nil]
section
variable {X : Cx} {CX : CXT} {k : Nat} {C : Addr} {m x : Str} {ps : List Str} {sp : Sp} {E : XK} {o e : Expr} {es : List Expr} {ta te tf : TE} {t : TA} {p apos pos : Pos}
theorem pe_def (F : DefN X.prog X.w X.K X.mg X.base CX k x ps sp) (hr : Room k X.A) (hx : Passes CX X E) (ha : PA X (e :: es) t) (hg : Gl X x := by rfl) (hdb : (x == ("__debug__" : Str)) = false := by decide)
    (he : starEach (e :: es) X.env = (false, eval e X.env) :: starEach es X.env := by rfl) (hpl : (backTo pos (starEach es X.env)).any (·.1) = false := by rfl) : PE X (.Call (.Name x p) (e :: es) [] pos) (tDef sp E t) := by
  obtain ⟨f, fd, a, b, c, d⟩ := F.ex
  have z := pe_call (p := p) (pos := pos) (dvs := []) c hr hg a b d .nil hx ha hdb he hpl
  rwa [tCall_nil] at z
theorem pe_prp (c : Cls X.K C) (F : PropN X.prog X.w X.K X.mg X.base CX k C m sp) (hr : Room (k + 1) X.A) (hx : Passes CX X.nox E) (he : PE X e ta) (hab : attributeBase e m X.env (eval e X.env) = eval e X.env := by rfl) : PE X (.Attribute e m pos) (tPrp C sp E ta) := by
  obtain ⟨p, g, fd, hp, d, b⟩ := F.ex
  have z := pe_prop (pos := pos) (dvs := []) he c hp d hr b .nil hx hab
  exact z
theorem pe_cm {pl : Sem Bool} (F : CmN X.prog X.w X.K X.mg X.base CX k C m sp) (hr : Room k X.A) (hx : Passes CX X E) (he : PE X o ta) (ha : PA X (e :: es) t)
    (hst : starEach (e :: es) X.env = (false, eval e X.env) :: starEach es X.env := by rfl) (hpl : (backTo pos (starEach es X.env)).any (·.1) = false := by rfl)
    (ht : eval (.Call (.Attribute o m apos) (e :: es) [] pos) X.env = (do
      let ov ← eval o X.env
      standAt apos.atName
      let (f, first) ← holding [ov] (getMethod ov m pl)
      callWith pos f first (backTo pos (starEach (e :: es) X.env)) (backToKw pos (keywordEach [] X.env))) := by rfl) : PE X (.Call (.Attribute o m apos) (e :: es) [] pos) (ClX.tCMeth C sp E ta t) := by
  obtain ⟨mc, p, g, r, c, F⟩ := F.ex
  exact ClX.pe_cmeth (pl := pl) he r c F hr hx ha hst hpl ht
end
section
variable {X : Cx} {CX : CXT} {k : Nat} {C : Addr} {m x : Str} {ps : List Str} {sp : Sp} {E : XK}
theorem notFirst_self {K : PySem.W.Frag} {C : Addr} : PySem.W.notFirst K C (.ref C) = true := by
  unfold PySem.W.notFirst
  rw [beq_self_eq_true, Bool.true_or]
end
end TkL


namespace TkL
open PySem PySem.Spec PySem.Calls PyProof.Rows L2
section
variable {prog : Program} {w : World} {A : Around} {E : Value → Shared → Prop} {s : Shared} {K : PySem.W.Frag} {x C f : Addr} {b tb : Value} {ox : Obj} {od : Option Obj}
theorem ne_obj (X : K.In s.heap) (I : PySem.W.InstAt s.heap x ox C od) (hs : PySem.W.findIn K (.ref C) "__eq__" = some (some (.ref f))) (hf : PySem.W.isFn K (.ref f) = true) (hu : A.units < cLine) {Q : Fin → Shared → Prop}
    (h : wpAny (model prog w) A (call (.ref f) [.ref x, b]) (fun v s' => ∃ c, v = .bool c ∧ Q (.done (.ret (.bool (!c)))) s') E s) : wpAny (model prog w) A (Builtin.«object.__ne__» ⟨[.ref x, b], []⟩) Q E s := by
  obtain ⟨hh, g, d, t, os⟩ := s
  unfold Builtin.«object.__ne__»
  repeat (first
    | with_reducible refine wpAny_cRoomFor hu ?_
    | (refine wpAny_bind (m := callSpecialIfBound? (.ref x) (Str.ofString "__eq__") [b])
        (PySem.W.ifBound_K X I hs hf (wpAny_mono h (fun r s' hr => by
          obtain ⟨c, rfl, hq⟩ := hr
          repeat (first | exact hq | exact wpAny_pure hq | exact wpAny_truthy_bool hq | (refine wpAny_bind (m := truthy (.bool _)) (wpAny_truthy_bool ?_)) | wp_step)) fun _ _ e => e)))
    | wp_step)
theorem ne_special (X : K.In s.heap) (I : PySem.W.InstAt s.heap x ox C od) (hn : PySem.W.findIn K (.ref C) "__ne__" = some (some (.builtin "object.__ne__"))) (ho : PySem.W.subIn K (.ref C) (.type "object") = some true)
    (hs : PySem.W.findIn K (.ref C) "__eq__" = some (some (.ref f))) (hf : PySem.W.isFn K (.ref f) = true) (hu : A.units + 1 < cLine) {Q : Option Value → Shared → Prop}
    (h : wpAny (model prog w) A.in1 (call (.ref f) [.ref x, b]) (fun v s' => ∃ c, v = .bool c ∧ Q (some (.bool (!c))) s') E s) : wpAny (model prog w) A (tryCompare (.ref x) "__ne__" b) Q E s := by
  have sl : Slot "object" "__ne__" "object.__ne__" := Slot.of (owner := "object") (n := "__ne__") (by rw [typeLookup_type, builtinLookup_eq_fast]; kernel_rfl) (by decide +kernel) (by decide +kernel) (by decide +kernel) (.inl (by decide +kernel)) (by rw [isSubtype_type]; kernel_rfl)
  have inst : PySem.W.Looks (model prog w) s.heap (isInstance (.ref x) (.type "object")) true := by
    unfold isInstance
    exact I.type.andThen (PySem.W.looks_subIn X ho)
  have key : wpAny (model prog w) A (call (.builtin "object.__ne__") [.ref x, b]) (fun v s' => ∃ c, v = .bool (!c) ∧ Q (some (.bool (!c))) s') E s :=
    wpAny_call (codeAny_call_builtin sl.plain F.cmpEntry_ne (PySem.W.check_slot F.cmpKind_ne F.cmpSplit_ne inst (F.cmpArgs_ne _ _)
      (ne_obj (A := A.in1) X I hs hf hu (wpAny_mono h (fun v s' hv => by obtain ⟨c, e, q⟩ := hv; exact ⟨c, e, c, rfl, q⟩) fun _ _ e => e))))
  unfold tryCompare
  refine wpAny_bind ?_
  simp only [callSpecialIfBound?, bindSpecialIfBound?]
  refine wpAny_holding (wpAny_bind (wpAny_bind (wpAny_bind (I.type.here ((PySem.W.looks_findIn X hn).here ?_)))))
  refine wpAny_bind (wpAny_askSetting (wpAny_ite ?_))
  have fin : wpAny (model prog w) A (call (.builtin "object.__ne__") ([.ref x] ++ [b]) >>= fun v => pure (some v)) (fun r s' => wpAny (model prog w) A (match r with | some .notImplemented | none => pure none | some v => pure (some v)) Q E s') E s :=
    wpAny_bind (wpAny_mono key (fun v s' h' => by obtain ⟨c, rfl, q⟩ := h'; exact wpAny_pure (wpAny_pure q)) fun _ _ h' => h')
  split
  · rw [sl.bind]
    exact wpAny_bind (wpAny_pure (wpAny_pure fin))
  · rw [sl.bind]
    exact wpAny_tryCatch (wpAny_bind (wpAny_pure (wpAny_pure fin)))
theorem ne_K {Q : Value → Shared → Prop} (X : K.In s.heap) (I : PySem.W.InstAt s.heap x ox C od) (hb : PySem.W.Looks (model prog w) s.heap (typeOf b) tb) (hnf : PySem.W.notFirst K C tb = true)
    (hn : PySem.W.findIn K (.ref C) "__ne__" = some (some (.builtin "object.__ne__"))) (ho : PySem.W.subIn K (.ref C) (.type "object") = some true)
    (hs : PySem.W.findIn K (.ref C) "__eq__" = some (some (.ref f))) (hf : PySem.W.isFn K (.ref f) = true) (hu : A.units + 1 < cLine)
    (h : wpAny (model prog w) A.in1 (call (.ref f) [.ref x, b]) (fun v s' => ∃ c, v = .bool c ∧ Q (.bool (!c)) s') E s) : wpAny (model prog w) A (compareOp .NotEq (.ref x) b) Q E s := by
  have one : wpAny (model prog w) A (tryCompare (.ref x) "__ne__" b) (fun r s' => ∃ v, r = some v ∧ Q v s') E s :=
    ne_special X I hn ho hs hf hu (wpAny_mono h (fun v s' hv => by obtain ⟨c, e, q⟩ := hv; exact ⟨c, e, _, rfl, q⟩) fun _ _ e => e)
  show wpAny (model prog w) A (richCompare .NotEq (.ref x) b) Q E s
  unfold richCompare
  simp only [oneThing_ref]
  refine wpAny_holding (wpAny_bind (wpAny_cRoomFor (Nat.lt_of_succ_lt hu) ?_))
  rw [cmpInfo_NotEq]
  dsimp only
  refine wpAny_bind (I.type.here (wpAny_bind (hb.here ?_)))
  split
  · rename_i q
    have e : PySem.W.subIn K tb (.ref C) = some false := by
      rcases Bool.or_eq_true_iff.mp hnf with e | e
      · rw [beq_iff_eq.mp e] at q; simp at q
      · exact beq_iff_eq.mp e
    refine wpAny_bind ((PySem.W.looks_subIn X e).here ?_)
    simp only [Bool.false_eq_true, if_false]
    refine wpAny_bind (wpAny_mono one (fun r s' z => ?_) fun _ _ e => e)
    obtain ⟨v, rfl, hq⟩ := z
    exact wpAny_pure hq
  · refine wpAny_bind (wpAny_pure ?_)
    simp only [Bool.false_eq_true, if_false]
    refine wpAny_bind (wpAny_mono one (fun r s' z => ?_) fun _ _ e => e)
    obtain ⟨v, rfl, hq⟩ := z
    exact wpAny_pure hq
end
structure NeC (K : PySem.W.Frag) (C : Addr) : Prop where
  ne : PySem.W.findIn K (.ref C) "__ne__" = some (some (.builtin "object.__ne__"))
  ob : PySem.W.subIn K (.ref C) (.type "object") = some true
section
variable {X : Cx} {CX : CXT} {k : Nat} {C : Addr} {m x : Str} {ps : List Str} {sp : Sp} {E : XK} {o e e2 : Expr} {es : List Expr} {ta te tb tf : TE} {t : TA} {p apos pos : Pos}
theorem run_in1 {pins : List (Addr × Obj)} {σ : L2.St} {H : Hp} {s : Shared} {Q : VK} {f : Addr} {us : List Value} {vs : List V} (G : FnR X.prog X.w X.K X.mg X.base CX k f sp) (hr : Room (k + 1) X.A) (hx : Passes CX X E) (I : Inv X pins σ H s) (r : Vals vs us) (h : sp vs H Q E) :
    wpAny (model X.prog X.w) X.A.in1 (call (.ref f) us) (EP X pins σ Q) X.xe s := by
  refine wpAny_call (codeAny_mono (G X.A.in1 X.stack s H us vs Q E hr.in1 I.env0.in1 r h) fun r s' hq => ?_)
  cases r with
  | error e => exact hx pins σ H s e s' I hq
  | ok fl =>
    cases fl with
    | ret u => exact I.after hq
    | next => exact False.elim hq
    | brk => exact False.elim hq
    | cont => exact False.elim hq
def rOwnNe (C : Addr) (sp : Sp) (E : XK) : R2 := fun x y H Q => ∃ a dx fs b dy gs, x = .ref a ∧ y = .ref b ∧ H a = some (.ins C dx fs) ∧ H b = some (.ins C dy gs) ∧ sp [x, y] H (fun v H' => ∃ c, v = .bl c ∧ Q (.bl (!c)) H') E
theorem op_neOwn (N : NeC X.K C) (F : MetN X.prog X.w X.K X.mg X.base CX k C "__eq__" ps sp) (hr : Room (k + 1) X.A) (hx : Passes CX X E) : OpR X (compareOp .NotEq) (rOwnNe C sp E) := by
  intro pins s σ H x y v u Q I rx ry h
  obtain ⟨a, dx, fs, b, dy, gs, rfl, rfl, ha, hb, h⟩ := h
  cases rx
  cases ry
  obtain ⟨f, e1, e2, e3, G⟩ := F.raw
  obtain ⟨mA, O, _⟩ := ins_get I.hok ha
  obtain ⟨od, J, _⟩ := O.look
  obtain ⟨mB, O2, _⟩ := ins_get I.hok hb
  obtain ⟨od2, J2, _⟩ := O2.look
  refine ne_K I.kIn J J2.type notFirst_self N.ne N.ob e1 e2 (hu_of hr) ?_
  refine wpAny_mono (run_in1 (us := [.ref a, .ref b]) (vs := [.ref a, .ref b]) G hr hx I (.cons rfl (.cons rfl .nil)) h) (fun v s' hv => ?_) fun _ _ z => z
  obtain ⟨v', H', I', rv, c, ev, q⟩ := hv
  subst ev
  cases rv
  exact ⟨c, rfl, V.bl (!c), H', I', rfl, q⟩
end
structure MkN (P : Program) (w : World) (K : PySem.W.Frag) (mg : Str → Option Value) (base : Heap) (CX : CXT) (k : Nat) (C : Addr) (sp : Sp) : Prop where
  ex : ∃ f, Mk K C f ∧ FnR P w K mg base CX k f sp
def tMk (C : Addr) (sp : Sp) (E : XK) (t : TA) : TE := StX.tMakeR C sp E t
section
variable {X : Cx} {CX : CXT} {k i : Nat} {C : Addr} {m x : Str} {sp : Sp} {E : XK} {e : Expr} {es : List Expr} {t : TA} {p pos : Pos}
theorem pe_mkN (M : MkN X.prog X.w X.K X.mg X.base CX k C sp) (hr : Room (k + 1) X.A) (hm : X.mg x = some (.ref C)) (hx : Passes CX X E) (ha : PA X (e :: es) t) (hg : Gl X x := by rfl) (hdb : (x == ("__debug__" : Str)) = false := by decide)
    (he : starEach (e :: es) X.env = (false, eval e X.env) :: starEach es X.env := by rfl) (hpl : (backTo pos (starEach es X.env)).any (·.1) = false := by rfl) : PE X (.Call (.Name x p) (e :: es) [] pos) (tMk C sp E t) := by
  obtain ⟨f, M, F⟩ := M.ex
  exact StX.pe_makeR M F hr hg hm hx ha hdb he hpl
def tMkV (i : Nat) (C : Addr) (sp : Sp) (E : XK) (t : TA) : TE := fun σ H Q => σ[i]? = some (some (.ref C)) ∧ StX.tMakeR C sp E t σ H Q
theorem pe_mkV (M : MkN X.prog X.w X.K X.mg X.base CX k C sp) (hr : Room (k + 1) X.A) (hx : Passes CX X E) (ha : PA X (e :: es) t) (hN : X.N[i]? = some x := by rfl) (hv : Vis X.env.scope x := by first | exact Or.inl rfl | exact Or.inr (Or.inl rfl) | exact Or.inr (Or.inr rfl))
    (hd : (x == ("__debug__" : Str)) = false := by decide) (hcd : (x == ("__classdict__" : Str)) = false := by decide)
    (he : starEach (e :: es) X.env = (false, eval e X.env) :: starEach es X.env := by rfl) (hpl : (backTo pos (starEach es X.env)).any (·.1) = false := by rfl) : PE X (.Call (.Name x p) (e :: es) [] pos) (tMkV i C sp E t) := by
  obtain ⟨f, M, F⟩ := M.ex
  refine ⟨fun pins s σ H Q I h => ?_⟩
  obtain ⟨h0, h⟩ := h
  have hp := (pe_var (pos := p) hN hv hd hcd).run pins s σ H (fun v H' => v = .ref C ∧ H' = H) I ⟨_, h0, rfl, rfl⟩
  refine Call_ (thn hp fun u s1 ⟨y, H1, I1, ry, ey, eH⟩ => ?_) rfl
  subst ey eH
  cases ry
  refine PySem.W.callWith_K (h₀ := X.base) I.ok.mod.kin M.kp (thn (ha.run pos pins s1 σ _ _ I1 h) fun us s2 ⟨vs, H2, I2, r, q⟩ => ⟨I2.kIn, ?_⟩) he hpl
  exact StX.run_makeR M F hr hx I2 r q
end
end TkL


namespace TkL
open PySem PySem.Spec PySem.Calls PyProof.Rows L2
set_option maxHeartbeats 4000000 in
theorem meets_enum1 {v : Value} {o : Obj} {H : Heap → Prop} (B : Begins v o H) :
    Meets (Builtin.«enumerate.__new__» ⟨[.type "enumerate", v], []⟩) (fun _ R s => H s.heap ∧
      R (.ok (.ret (.ref (s.heap.push o).objs.size))) { s with heap := (s.heap.push o).push { cls := .type "enumerate", data := .fields #[.none, .bool false, .ref s.heap.objs.size, rawInt 0, .none, .none] } }) :=
  .of_wp fun prog w A R s h => by
    obtain ⟨hp, g, d, tk, os⟩ := s; obtain ⟨h1, h⟩ := h
    have hsub := sub_enumerate
    have q1 : ∀ {A' : Around} {E : Value → Shared → Prop} {Q : Value → Shared → Prop}, Q (.ref hp.objs.size) ⟨hp.push o, g, d, tk, os⟩ → wpAny (model prog w) A' (pyIter v) Q E ⟨hp, g, d, tk, os⟩ :=
      fun q => B.iter prog w _ _ ⟨hp, g, d, tk, os⟩ _ h1 q
    wp_walk using q1
    refine wpAny_stack_any fun st => wpAny_pure ?_
    split
    · rename_i c _ _ _ _ _
      cases (c == Value.type "enumerate")
      · wp_walk using q1
        exact ⟨_, rfl, h⟩
      · wp_walk using q1
        exact ⟨_, rfl, h⟩
    · wp_walk using q1
      exact ⟨_, rfl, h⟩
theorem enum_begins1 {prog : Program} {w : World} {A : Around} {E : Value → Shared → Prop} {s : Shared} {v : Value} {o : Obj} {H : Heap → Prop} {Q : Value → Shared → Prop} (B : Begins v o H) (h1 : H s.heap)
    (h : ∀ h', IsEnum h' (s.heap.objs.size + 1) s.heap.objs.size 0 .none → h'.get? s.heap.objs.size = some o → h'.objs.size = s.heap.objs.size + 2 →
      (∀ b o, s.heap.get? b = some o → h'.get? b = some o) → Q (.ref (s.heap.objs.size + 1)) { s with heap := h' }) :
    wpAny (model prog w) A (call (.type "enumerate") [v]) Q E s := by
  refine callType_new F.called_enumerate (by decide) (F.typeCall_enumerate_1 _) (F.newCall_enumerate_1 _) (fun obj => F.args_object_init_2 obj _) F.entry_enumerate_new (meets_enum1 B) ⟨h1, ?_⟩
  have hz : (s.heap.push o).objs.size = s.heap.objs.size + 1 := Heap.size_push ..
  show _ ∧ _
  rw [hz]
  have he : IsEnum ((s.heap.push o).push { cls := .type "enumerate", data := .fields #[.none, .bool false, .ref s.heap.objs.size, rawInt 0, .none, .none] }) (s.heap.objs.size + 1) s.heap.objs.size 0 .none := by
    have := Heap.get?_push_size (s.heap.push o) (o := { cls := .type "enumerate", data := .fields #[.none, .bool false, .ref s.heap.objs.size, rawInt 0, .none, .none] }) rfl
    rw [hz] at this; exact this
  refine ⟨⟨_, he, rfl⟩, h _ he (Heap.get?_push_of_some _ (Heap.get?_push_size _ B.free)) (by rw [Heap.size_push, hz]) fun b o x => Heap.get?_push_of_some _ (Heap.get?_push_of_some _ x)⟩
def IteT (K : PySem.W.Frag) (a : Addr) : It :=
  ⟨fun i H => ∃ (xs : List V) (x : V), SqT K H a xs ∧ xs[i]? = some x, fun i H v H' => ∃ T x, v = .ref T ∧ H T = none ∧ H' = upd H T (.tup [.int (i : Nat), x]) ∧ ∀ xs, SqT K H a xs → xs[i]? = some x, fun i H => ∃ xs : List V, SqT K H a xs ∧ xs.length ≤ i⟩
theorem turn_enumT {P : Program} {w : World} {K : PySem.W.Frag} {elts : List Expr} {kk : Nat} {tpos : Pos} (a e it : Addr) (hat : a ≠ it) (hae : a ≠ e) :
    Turn P w K (.Tuple elts kk tpos) (IteT K a) [e, it] e (fun i h => (∃ old, IsEnum h e it ((i : Nat) : Int) old) ∧ h.IsTupleIter it a i ∧ e ≠ it) where
  mem := by simp
  obj := fun i h st b hb => by
    obtain ⟨⟨old, he⟩, ⟨o, ho, hc, hd⟩, _⟩ := st
    have e' : b = e ∨ b = it := by simpa using hb
    rcases e' with z | z
    · rw [z]; exact ⟨_, he, fun v q => nomatch q⟩
    · rw [z]; exact ⟨o, ho, fun v q => by rw [hd] at q; cases q⟩
  keep := fun i h h' st k => let ⟨⟨old, he⟩, hi, hne⟩ := st; ⟨⟨old, k e (by simp) _ he⟩, hi.at fun o q => k it (by simp) o q, hne⟩
  item := by
    intro X hP hw hK hc i pins s σ H E I hf st hg
    subst hP hw hK
    obtain ⟨⟨old, he⟩, hit, hne⟩ := st
    obtain ⟨xs, x, hq, hx⟩ := hg
    obtain ⟨its, rv, p, hz⟩ := I.tuple hq
    obtain ⟨u, hu, ru⟩ := rv.get hx
    have hel : e < s.heap.objs.size := Heap.lt_size he
    have hil : it < s.heap.objs.size := by obtain ⟨_, q, _⟩ := hit; exact Heap.lt_size q
    have D := Draws.tuple (prog := X.prog) (w := X.w) (A := X.A.in1) (I.ok.hd hc) it a hat its.toArray
    have hlt : i < its.toArray.size := by
      have := (List.getElem?_eq_some_iff.mp hu).1
      simpa using this
    refine wpAny_pyNext_enum_itemD D he ⟨hit, p⟩ hlt hne (by simp only [List.mem_cons, List.not_mem_nil, or_false, not_or]; exact ⟨hne, fun z => hae z.symm⟩) fun x' h' tk hPx ho hit' hT hsz hk => ?_
    have ex' : x' = u := by
      have z : its.toArray[i]? = some u := by simpa using hu
      rw [z] at hPx
      exact (Option.some.inj hPx).symm
    subst ex'
    refine ⟨_, rfl, wpAny_letOwnedTupleGo_enum (s := { s with heap := h', toks := tk + 1 }) ho fun h'' he' sb => ?_⟩
    have hT2 : h''.get? s.heap.objs.size = some { cls := .type "tuple", data := .seq #[.int i tk, x'] } := (sb.2 _ (Nat.ne_of_gt hel)).trans hT
    have new : ObjOk X.prog X.w (upd H s.heap.objs.size (.tup [.int (i : Nat), x])) h'' s.heap.objs.size (.tup [.int (i : Nat), x]) :=
      ⟨by show 2 ≤ sizeLine; decide, [.int i tk, x'], .cons ⟨_, rfl⟩ (.cons ru .nil), ⟨_, hT2, rfl, _, rfl⟩⟩
    have I1 : Inv X pins σ (upd H s.heap.objs.size (.tup [.int (i : Nat), x])) { s with heap := h'', toks := tk + 1 } :=
      I.turnedNew (ch := [e, it]) (fun b ob hb q => (sb.2 b (fun z => hb (by simp [z]))).trans (hk b ob (fun z => hb (by simp [z])) (fun z => hb (by simp [z])) q)) hf (Nat.le_refl _) new
    refine ⟨.ref s.heap.objs.size, _, I1, rfl, ⟨_, x, rfl, I.hok.fresh (Nat.le_refl _), rfl, fun ys hy => by rw [I.tuple_inj hy hq]; exact hx⟩, ⟨⟨x', ?_⟩, hit'.1.at fun o q => (sb.2 it (Ne.symm hne)).trans q, hne⟩, fun b hb => ?_⟩
    · have e1 : ((i + 1 : Nat) : Int) = (i : Int) + 1 := by omega
      rw [e1]; exact he'
    · have hb' : b < s.heap.objs.size := by
        have e' : b = e ∨ b = it := by simpa using hb
        rcases e' with z | z
        · rw [z]; exact hel
        · rw [z]; exact hil
      rw [upd_ne (Nat.ne_of_lt hb')]
      exact (hf b hb).1
  done := by
    intro X hP hw hK hc i pins s σ H E I hf st hg
    subst hP hw hK
    obtain ⟨⟨old, he⟩, hit, hne⟩ := st
    obtain ⟨xs, hq, hx⟩ := hg
    obtain ⟨its, rv, p, hz⟩ := I.tuple hq
    obtain ⟨f0, f1, f2, f3, f4, f5⟩ := hf it (by simp)
    have hl := rv.length
    have hx' : its.toArray[i]? = none := by simp; omega
    have hT : s.TypeIs (.ref e) "enumerate" := ⟨_, he, rfl⟩
    have hh : X.A.in1.handled = none := I.ok.hd hc
    have key : ∀ {Q : Option Value → Shared → Prop}, (∀ h', Heap.ExtBut it s.heap h' → Q none { s with heap := h' }) → wpAny (model X.prog X.w) X.A (pyNext (.ref e)) Q E s := fun {Q} hQ => by
      unfold pyNext
      refine wpAny_bind (wpAny_attempt (wpAny_callSpecial?_slot (name := Str.ofString "__next__") hT PySem.F.slot_enumerate_next
        (wpAny_call_entry PySem.F.slot_enumerate_next hT PySem.F.entry_enumerate_next ?_ (PySem.F.args_enumerate_next_1 _))))
      show wpAny _ _ (field (.ref e) 2 >>= _) _ _ _
      refine wpAny_bind (wpAny_field he rfl (x := .ref it) rfl ?_)
      refine wpAny_bind (wpAny_nextOf_tuple_end hh hit p hx' fun h' x he' hx' => ?_)
      obtain ⟨o, ho, hc⟩ := hx'
      refine wpAny_bind (wpAny_isInstance (T := "StopIteration") (b := true) ⟨o, ho, hc⟩ isSubtype_stop ?_)
      exact wpAny_pure (hQ _ he')
    exact key fun h' eb => ⟨rfl, I.turned (t' := s.toks) (fun b o hb q => eb b o hb q) f0 f1 f3 f4 f5⟩
  self := fun A i s Q E st h => let ⟨⟨_, he⟩, _⟩ := st; wpAny_pyIter_enum he h
def iEnumA (K : PySem.W.Frag) (ta : TA) : TI := fun σ H R => ta σ H fun vs H1 => ∃ a xs, vs = [.ref a] ∧ ((SqL K H1 a xs ∧ R (Ite K a) H1) ∨ (SqT K H1 a xs ∧ R (IteT K a) H1))
theorem pi_enumA {X : Cx} {e : Expr} {ta : TA} {p pos tpos : Pos} {elts : List Expr} {kk : Nat} (hm : X.mg "enumerate" = none) (ha : PA X [e] ta) (hg : Gl X "enumerate" := by rfl) (hs : starEach [e] X.env = [(false, eval e X.env)] := by rfl) :
    PI X (.Tuple elts kk tpos) (.Call (.Name "enumerate" p) [e] [] pos) (iEnumA X.K ta) := by
  refine ⟨fun pins s σ H R I h => ?_⟩
  refine Call_ (ld_blt I hg hm boot_enumerate (PyProof.Rows.callWith_type1 (thn (ha.run pos pins s σ H _ I h) fun us s1 ⟨vs, H1, I1, r1, q1⟩ => ?_) hs rfl))
  obtain ⟨a, xs, ex, q⟩ := q1
  subst ex
  cases r1 with
  | cons r rr =>
    cases rr
    cases r
    have fp : ∀ (h' : Heap) (I2 : Inv X pins σ H1 { s1 with heap := h' }), ∀ b ∈ [s1.heap.objs.size + 1, s1.heap.objs.size], FpOk X pins H1 b := fun h' I2 b hb => by
      have e' : b = s1.heap.objs.size + 1 ∨ b = s1.heap.objs.size := by simpa using hb
      have hle : s1.heap.objs.size ≤ b := by
        rcases e' with z | z
        · rw [z]; exact Nat.le_add_right _ _
        · rw [z]; exact Nat.le_refl _
      exact I1.fpOk hle (I1.hok.fresh hle)
    rcases q with ⟨hq, q⟩ | ⟨hq, q⟩
    · obtain ⟨its, rv, p', hz⟩ := I1.list hq
      refine call_enumerate_list p'.isList fun h' he hit hsz hk => wpAny_pyIter_enum he ?_
      have I2 : Inv X pins σ H1 { s1 with heap := h' } := I1.kept (t' := s1.toks) hk
      exact ⟨s1.heap.objs.size + 1, [s1.heap.objs.size + 1, s1.heap.objs.size], _, _, H1, rfl, I2, turn_enum a (s1.heap.objs.size + 1) s1.heap.objs.size, ⟨⟨.none, he⟩, hit, Nat.succ_ne_self _⟩, fp h' I2, q⟩
    · obtain ⟨its, rv, p', hz⟩ := I1.tuple hq
      have hlt : a < s1.heap.objs.size := p'.lt
      refine enum_begins1 (begins_tuple a its.toArray) (show s1.heap.IsTuple a its.toArray from p') fun h' he hit hsz hk => wpAny_pyIter_enum he ?_
      have I2 : Inv X pins σ H1 { s1 with heap := h' } := I1.kept (t' := s1.toks) hk
      exact ⟨s1.heap.objs.size + 1, [s1.heap.objs.size + 1, s1.heap.objs.size], _, _, H1, rfl, I2, turn_enumT a (s1.heap.objs.size + 1) s1.heap.objs.size (Nat.ne_of_lt hlt) (Nat.ne_of_lt (Nat.lt_succ_of_lt hlt)), ⟨⟨.none, he⟩, ⟨_, hit, rfl, rfl⟩, Nat.succ_ne_self _⟩, fp h' I2, q⟩
end TkL


namespace TkL
open PySem PySem.Spec PySem.Calls PyProof.Rows L2

def Ex (H H' : Hp) : Prop := ∀ a o, H a = some o → H' a = some o
theorem Ex.refl (H : Hp) : Ex H H := fun _ _ h => h
theorem Ex.trans {H H1 H2 : Hp} (a : Ex H H1) (b : Ex H1 H2) : Ex H H2 := fun x o h => b x o (a x o h)
theorem Ex.new {H : Hp} {p : Addr} {o : HO} (h : H p = none) : Ex H (upd H p o) := fun a u e => by
  rw [upd_ne (ne_of_none e h)]
  exact e
theorem Ex.mut {H H' : Hp} {p : Addr} {o : HO} (e : Ex H H') (h : H p = none) : Ex H (upd H' p o) := fun a u ha => by
  rw [upd_ne (ne_of_none ha h)]
  exact e a u ha
theorem Ex.back {H H' : Hp} {p : Addr} (e : Ex H H') (h : H' p = none) : H p = none := by
  cases h1 : H p with
  | none => rfl
  | some o =>
    rw [e p o h1] at h
    cases h
theorem Ex.sqL {K : PySem.W.Frag} {H H' : Hp} {a : Addr} {xs : List V} (e : Ex H H') (h : SqL K H a xs) : SqL K H' a xs := by
  rcases h with (h | ⟨o, h⟩) | h
  · exact .inl (.inl (e _ _ h))
  · exact .inl (.inr ⟨o, e _ _ h⟩)
  · exact .inr h
theorem Ex.sqT {K : PySem.W.Frag} {H H' : Hp} {a : Addr} {xs : List V} (e : Ex H H') (h : SqT K H a xs) : SqT K H' a xs := by
  rcases h with (h | ⟨o, h⟩) | h
  · exact .inl (.inl (e _ _ h))
  · exact .inl (.inr ⟨o, e _ _ h⟩)
  · exact .inr h
theorem lOf {K : PySem.W.Frag} {H : Hp} {a : Addr} {xs : List V} (h : H a = some (.lst xs)) : SqL K H a xs := .inl (.inl h)
theorem tOf {K : PySem.W.Frag} {H : Hp} {a : Addr} {xs : List V} (h : H a = some (.tup xs)) : SqT K H a xs := .inl (.inl h)
theorem sz_of {n : Nat} (h : n ≤ 1000000) : n ≤ sizeLine := Nat.le_trans h (by decide)
theorem sz_lt {n : Nat} (h : n < 1000000) : n < sizeLine := Nat.lt_of_lt_of_le h (by decide)

section
variable {σ : L2.St} {H : Hp} {Q : VK} {D : Ends} {t u : TS} {ta tb tc te : TE} {tt tu : TT} {A : TA} {v x y : V} {i : Nat} {K : PySem.W.Frag}
theorem x_seq (h : t { D with nx := u D } σ H) : tSeq t u D σ H := h
theorem x_next (h : D.nx σ H) : tNext D σ H := h
theorem x_break (h : D.bk σ H) : tBreak D σ H := h
theorem x_drop (h : te σ H fun _ H1 => D.nx σ H1) : tDrop te D σ H := h
theorem x_ret (h : te σ H D.rt) : tRet te D σ H := h
theorem x_ifS (h : tt σ H fun b H1 => if b = true then t D σ H1 else u D σ H1) : tIfS tt t u D σ H := h
theorem x_asg {g : TG} (h : te σ H fun x H1 => g x σ H1 D.nx) : tAsg te g D σ H := h
theorem x_name {Q : L2.St → Hp → Prop} (h : Q (σ.set i (some v)) H) : gName i v σ H Q := h
theorem x_var (e : σ[i]? = some (some v)) (h : Q v H) : tVar i σ H Q := ⟨v, e, h⟩
theorem x_c (h : Q v H) : tC v σ H Q := h
theorem x_op {r : R2} (h : ta σ H fun x H1 => tb σ H1 fun y H2 => r x y H2 Q) : tOp r ta tb σ H Q := h
theorem x_un {r : V → Hp → VK → Prop} (h : ta σ H fun x H1 => r x H1 Q) : tUn r ta σ H Q := h
theorem x_rI0 {g : Int → Int → V} {a b : Int} (h : Q (g a b) H) : rI0 g (.int a) (.int b) H Q := ⟨a, b, rfl, rfl, h⟩
theorem x_rI {C : Int → Int → Prop} {g : Int → Int → V} {a b : Int} (c : C a b) (h : Q (g a b) H) : rI C g (.int a) (.int b) H Q := ⟨a, b, rfl, rfl, c, h⟩
theorem x_rU {g : Int → V} {a : Int} (h : Q (g a) H) : rU g (.int a) H Q := ⟨a, rfl, h⟩
theorem x_rEq (s : scal x y = true) (h : Q (.bl (decide (x = y))) H) : rEq x y H Q := ⟨s, h⟩
theorem x_rNe (s : scal x y = true) (h : Q (.bl (!decide (x = y))) H) : rNe x y H Q := ⟨s, h⟩
theorem x_nil {Q : List V → Hp → Prop} (h : Q [] H) : tNil σ H Q := h
theorem x_cons {Q : List V → Hp → Prop} (h : te σ H fun x H1 => A σ H1 fun xs H2 => Q (x :: xs) H2) : tCons te A σ H Q := h
theorem x_tup (h : A σ H fun xs H1 => xs.length ≤ sizeLine ∧ ∀ p, H1 p = none → Q (.ref p) (upd H1 p (.tup xs))) : tTup A σ H Q := h
theorem x_lst (h : A σ H fun xs H1 => xs.length ≤ sizeLine ∧ ∀ p, H1 p = none → Q (.ref p) (upd H1 p (.lst xs))) : tLst A σ H Q := h
theorem x_new {o : HO} (h : ∀ p H', Ex H H' → H p = none → H' p = some o → Q (.ref p) H') : ∀ p, H p = none → Q (.ref p) (upd H p o) := fun p hp => h p _ (Ex.new hp) hp upd_same
theorem x_notV (h : ta σ H fun x H1 => ∃ c, x = .bl c ∧ Q (.bl (!c)) H1) : tNotV ta σ H Q := h
theorem x_andV (h : ta σ H fun x H1 => ∃ c, x = .bl c ∧ if c = true then tb σ H1 Q else Q (.bl false) H1) : tAndV ta tb σ H Q := h
theorem x_exB {P : Bool → Prop} {c : Bool} (h : P c) : ∃ k, V.bl c = .bl k ∧ P k := ⟨c, rfl, h⟩
theorem x_if (h : tt σ H fun c H1 => if c = true then ta σ H1 Q else tb σ H1 Q) : tIf tt ta tb σ H Q := h
theorem x_B {Q : Bool → Hp → Prop} (h : te σ H fun x H1 => ∃ c, x = .bl c ∧ Q c H1) : tB te σ H Q := h
theorem x_test {Q : Bool → Hp → Prop} (h : te σ H fun x H1 => ∃ c, x = .bl c ∧ Q c H1) : tTest te σ H Q := h
theorem x_and {Q : Bool → Hp → Prop} (h : tt σ H fun c H1 => if c = true then tu σ H1 Q else Q false H1) : tAnd tt tu σ H Q := h
theorem x_or {Q : Bool → Hp → Prop} (h : tt σ H fun c H1 => if c = true then Q true H1 else tu σ H1 Q) : tOr tt tu σ H Q := h
theorem x_not {Q : Bool → Hp → Prop} (h : tt σ H fun c H1 => Q (!c) H1) : tNot tt σ H Q := h
theorem x_chain {r r' : R2} (h : ta σ H fun x H1 => tb σ H1 fun y H2 => r x y H2 fun z H3 => ∃ k, z = .bl k ∧ (if k = true then tc σ H3 fun w' H4 => r' y w' H4 Q else Q (.bl false) H3)) : tChain r r' ta tb tc σ H Q := h
theorem x_cb {r : List V → Hp → VK → Prop} (h : A σ H fun vs H1 => r vs H1 Q) : tCB r A σ H Q := h
theorem x_def {sp : Sp} {E : XK} (h : A σ H fun vs H1 => sp vs H1 Q E) : tDef sp E A σ H Q := h
theorem x_prp {C : Addr} {sp : Sp} {E : XK} (h : ta σ H fun x H1 => ∃ a dx fs, x = .ref a ∧ H1 a = some (.ins C dx fs) ∧ sp [.ref a] H1 Q E) : tPrp C sp E ta σ H Q := h
theorem x_fld {f : Str} (h : ta σ H fun x H1 => ∃ a C dx fs v, x = .ref a ∧ H1 a = some (.ins C dx fs) ∧ Cls K C ∧ NoAttr K C f ∧ fs.lookup f = some v ∧ Q v H1) : tFld K ta f σ H Q := h
theorem x_sfld {f : Str} {tv : TE} (h : tv σ H fun y H1 => ta σ H1 fun x H2 => ∃ a C dx fs, x = .ref a ∧ H2 a = some (.ins C dx fs) ∧ Cls K C ∧ NoAttr K C f ∧ fs.length < 1000 ∧ D.nx σ (upd H2 a (.ins C dx (putF f y fs)))) : sFld K ta tv f D σ H := h
theorem x_bm {T : String} {r : V → List V → Hp → VK → Prop} (h : te σ H fun x H1 => tyV K T x H1 ∧ A σ H1 fun xs H2 => r x xs H2 Q) : tBM K T r te A σ H Q := h
theorem x_bm0 {T : String} {r : V → List V → Hp → VK → Prop} (h : te σ H fun x H1 => tyV K T x H1 ∧ r x [] H1 Q) : tBM0 K T r te σ H Q := h
theorem x_sl {r : V → Option Int → Option Int → Hp → VK → Prop} {tl th : TO} (h : te σ H fun x H1 => tl σ H1 fun l H2 => th σ H2 fun u H3 => r x l u H3 Q) : L2.tSl r te tl th σ H Q := h
theorem x_noPart {Q : Option Int → Hp → Prop} (h : Q none H) : tNoPart σ H Q := h
theorem x_part {Q : Option Int → Hp → Prop} (h : te σ H fun x H1 => ∃ i, x = .int i ∧ Q (some i) H1) : tPart te σ H Q := h
theorem x_exI {P : Int → Prop} {c : Int} (h : P c) : ∃ k, V.int c = .int k ∧ P k := ⟨c, rfl, h⟩
theorem x_for {wi : TI} {g : TG} (h : wi σ H fun J H1 => ∃ W : Nat → Nat → L2.St → Hp → Prop, (∃ m, W 0 m σ H1) ∧ ∀ i m σ H, W i m σ H → (J.stop i H ∧ D.nx σ H) ∨ (J.go i H ∧ ∃ N : L2.St → Hp → Prop, (∀ σ' H', N σ' H' → ∃ m', m' < m ∧ W (i + 1) m' σ' H') ∧ ∀ x H', J.yld i H x H' → g x σ H' fun σ2 H2 => t { D with nx := N, ct := N, bk := D.nx } σ2 H2)) : tFor wi g t D σ H := h
theorem x_par {j : Nat} (h : A σ H fun vs H1 => ∃ v w, vs = [v, w] ∧ D.nx ((σ.set i (some v)).set j (some w)) H1) : tPar i j A D σ H := h
theorem x_parEx {P : V → V → Prop} {a b : V} (h : P a b) : ∃ v w, [a, b] = [v, w] ∧ P v w := ⟨a, b, rfl, h⟩
theorem x_ixL {p : Addr} {xs : List V} {i : Int} (s : SqL K H p xs) (e : atI xs i = some v) (h : Q v H) : rIxL K (.ref p) (.int i) H Q := ⟨p, xs, i, v, rfl, rfl, s, e, h⟩
theorem x_ixT {p : Addr} {xs : List V} {i : Int} (s : SqT K H p xs) (e : atI xs i = some v) (h : Q v H) : rIxT K (.ref p) (.int i) H Q := ⟨p, xs, i, v, rfl, rfl, s, e, h⟩
theorem x_iteD {c : Prop} [Decidable c] {A B : Prop} (h1 : c → A) (h2 : ¬ c → B) : if decide c = true then A else B := ite2 (fun h => h1 (of_decide_eq_true h)) (fun h => h2 fun z => h (decide_eq_true z))
end
end TkL


namespace TkL
open PySem PySem.Spec PySem.Calls PyProof.Rows L2

structure Wk (J : It) (H1 : Hp) (xs : List V) : Prop where
  go : ∀ H i, Ex H1 H → i < xs.length → J.go i H
  yl : ∀ H i x H', Ex H1 H → i < xs.length → J.yld i H x H' → H' = H ∧ xs[i]? = some x
  st : ∀ H i, Ex H1 H → xs.length ≤ i → J.stop i H
theorem Wk.list {K : PySem.W.Frag} {H : Hp} {a : Addr} {xs : List V} (h : SqL K H a xs) : Wk (Itl K a) H xs :=
  ⟨fun H' i e hi => ⟨xs, xs[i], e.sqL h, by simp [hi]⟩, fun H' i x H'' e hi y => ⟨y.1, y.2 xs (e.sqL h)⟩, fun H' i e hi => ⟨xs, e.sqL h, hi⟩⟩
theorem Wk.tup {K : PySem.W.Frag} {H : Hp} {a : Addr} {xs : List V} (h : SqT K H a xs) : Wk (Itt K a) H xs :=
  ⟨fun H' i e hi => ⟨xs, xs[i], e.sqT h, by simp [hi]⟩, fun H' i x H'' e hi y => ⟨y.1, y.2 xs (e.sqT h)⟩, fun H' i e hi => ⟨xs, e.sqT h, hi⟩⟩
def rngV (lo : Int) (n : Nat) : List V := (List.range n).map fun (k : Nat) => V.int (lo + (k : Int))
theorem rngV_length {lo : Int} {n : Nat} : (rngV lo n).length = n := by unfold rngV; simp
theorem rngV_get {lo : Int} {n i : Nat} (h : i < n) : (rngV lo n)[i]? = some (V.int (lo + (i : Int))) := by
  unfold rngV; simp [List.getElem?_range h]
theorem Wk.rng {H : Hp} {lo : Int} {n : Nat} : Wk (Itr lo n) H (rngV lo n) :=
  ⟨fun H' i _ hi => by rw [rngV_length] at hi; exact hi, fun H' i x H'' _ hi y => by rw [rngV_length] at hi; rw [rngV_get hi, y.2]; exact ⟨y.1, rfl⟩, fun H' i _ hi => by rw [rngV_length] at hi; exact hi⟩
theorem Wk.keys {H : Hp} {d : Addr} {o : Obj} {kvs : List (Key × V)} (h : H d = some (.frz o (.dK kvs))) : Wk (Itk d o kvs) H (kvs.map fun p => kV p.1) :=
  ⟨fun H' i e hi => ⟨e _ _ h, by simpa using hi⟩, fun H' i x H'' e hi ⟨y, k, v, q, ex⟩ => ⟨y, by rw [List.getElem?_map, q, ex]; rfl⟩, fun H' i e hi => ⟨e _ _ h, by simpa using hi⟩⟩

theorem lt_of_get {α : Type} {xs : List α} {i : Nat} {x : α} (h : xs[i]? = some x) : i < xs.length := (List.getElem?_eq_some_iff.mp h).1
theorem take_succ_of {α : Type} {xs : List α} {i : Nat} {x : α} (h : xs[i]? = some x) : xs.take (i + 1) = xs.take i ++ [x] := by
  rw [List.take_add_one, h]; rfl

theorem for_wk {J : It} {H0 H1 : Hp} {xs : List V} (W : Wk J H0 xs) {g : TG} {tb : TS} {D : Ends} {σ : L2.St} (Pv : Nat → L2.St → Hp → Prop) (h0 : Pv 0 σ H1) (he : ∀ i σ H, Pv i σ H → Ex H0 H)
    (hs : ∀ i x σ H, xs[i]? = some x → Pv i σ H → g x σ H fun σ2 H2 => tb { D with nx := Pv (i + 1), ct := Pv (i + 1), bk := D.nx } σ2 H2) (hd : ∀ σ H, Pv xs.length σ H → D.nx σ H) :
    ∃ W : Nat → Nat → L2.St → Hp → Prop, (∃ m, W 0 m σ H1) ∧ ∀ i m σ H, W i m σ H →
      (J.stop i H ∧ D.nx σ H) ∨ (J.go i H ∧ ∃ N : L2.St → Hp → Prop, (∀ σ' H', N σ' H' → ∃ m', m' < m ∧ W (i + 1) m' σ' H') ∧ ∀ x H', J.yld i H x H' → g x σ H' fun σ2 H2 => tb { D with nx := N, ct := N, bk := D.nx } σ2 H2) := by
  refine ⟨fun i m σ H => m = xs.length - i ∧ i ≤ xs.length ∧ Pv i σ H, ⟨xs.length, by simp, Nat.zero_le _, h0⟩, ?_⟩
  rintro i m σ H ⟨rfl, hi, p⟩
  have e := he _ _ _ p
  by_cases hlt : i < xs.length
  · refine .inr ⟨W.go H i e hlt, Pv (i + 1), fun σ' H' p' => ⟨xs.length - (i + 1), by omega, rfl, hlt, p'⟩, fun x H' y => ?_⟩
    obtain ⟨e1, e2⟩ := W.yl H i x H' e hlt y
    subst e1
    exact hs i x σ _ e2 p
  · have : i = xs.length := by omega
    subst this
    exact .inl ⟨W.st H _ e (Nat.le_refl _), hd _ _ p⟩
theorem for_enT {K : PySem.W.Frag} {H0 H1 : Hp} {a : Addr} {xs : List V} (h : SqT K H0 a xs) {p q : Nat} {tb : TS} {D : Ends} {σ : L2.St} (Pv : Nat → L2.St → Hp → Prop) (h0 : Pv 0 σ H1) (he : ∀ i σ H, Pv i σ H → Ex H0 H)
    (hs : ∀ i x σ H H', xs[i]? = some x → Pv i σ H → Ex H H' → tb { D with nx := Pv (i + 1), ct := Pv (i + 1), bk := D.nx } ((σ.set p (some (.int (i : Nat)))).set q (some x)) H') (hd : ∀ σ H, Pv xs.length σ H → D.nx σ H) :
    ∃ W : Nat → Nat → L2.St → Hp → Prop, (∃ m, W 0 m σ H1) ∧ ∀ i m σ H, W i m σ H →
      ((IteT K a).stop i H ∧ D.nx σ H) ∨ ((IteT K a).go i H ∧ ∃ N : L2.St → Hp → Prop, (∀ σ' H', N σ' H' → ∃ m', m' < m ∧ W (i + 1) m' σ' H') ∧ ∀ x H', (IteT K a).yld i H x H' → gTup K 2 (gCons (gName p) (gCons (gName q) gNil)) x σ H' fun σ2 H2 => tb { D with nx := N, ct := N, bk := D.nx } σ2 H2) := by
  refine ⟨fun i m σ H => m = xs.length - i ∧ i ≤ xs.length ∧ Pv i σ H, ⟨xs.length, by simp, Nat.zero_le _, h0⟩, ?_⟩
  rintro i m σ H ⟨rfl, hi, pv⟩
  have e := he _ _ _ pv
  by_cases hlt : i < xs.length
  · refine .inr ⟨⟨xs, xs[i], e.sqT h, by simp [hlt]⟩, Pv (i + 1), fun σ' H' p' => ⟨xs.length - (i + 1), by omega, rfl, hlt, p'⟩, fun x H' y => ?_⟩
    obtain ⟨T, z, rfl, hT, rfl, hz⟩ := y
    exact ⟨T, _, rfl, tOf upd_same, rfl, _, _, rfl, _, _, rfl, rfl, hs i z σ H _ (hz xs (e.sqT h)) pv (Ex.new hT)⟩
  · have : i = xs.length := by omega
    subst this
    exact .inl ⟨⟨xs, e.sqT h, Nat.le_refl _⟩, hd _ _ pv⟩
theorem for_enL {K : PySem.W.Frag} {H0 H1 : Hp} {a : Addr} {xs : List V} (h : SqL K H0 a xs) {p q : Nat} {tb : TS} {D : Ends} {σ : L2.St} (Pv : Nat → L2.St → Hp → Prop) (h0 : Pv 0 σ H1) (he : ∀ i σ H, Pv i σ H → Ex H0 H)
    (hs : ∀ i x σ H H', xs[i]? = some x → Pv i σ H → Ex H H' → tb { D with nx := Pv (i + 1), ct := Pv (i + 1), bk := D.nx } ((σ.set p (some (.int (i : Nat)))).set q (some x)) H') (hd : ∀ σ H, Pv xs.length σ H → D.nx σ H) :
    ∃ W : Nat → Nat → L2.St → Hp → Prop, (∃ m, W 0 m σ H1) ∧ ∀ i m σ H, W i m σ H →
      ((Ite K a).stop i H ∧ D.nx σ H) ∨ ((Ite K a).go i H ∧ ∃ N : L2.St → Hp → Prop, (∀ σ' H', N σ' H' → ∃ m', m' < m ∧ W (i + 1) m' σ' H') ∧ ∀ x H', (Ite K a).yld i H x H' → gTup K 2 (gCons (gName p) (gCons (gName q) gNil)) x σ H' fun σ2 H2 => tb { D with nx := N, ct := N, bk := D.nx } σ2 H2) := by
  refine ⟨fun i m σ H => m = xs.length - i ∧ i ≤ xs.length ∧ Pv i σ H, ⟨xs.length, by simp, Nat.zero_le _, h0⟩, ?_⟩
  rintro i m σ H ⟨rfl, hi, pv⟩
  have e := he _ _ _ pv
  by_cases hlt : i < xs.length
  · refine .inr ⟨⟨xs, xs[i], e.sqL h, by simp [hlt]⟩, Pv (i + 1), fun σ' H' p' => ⟨xs.length - (i + 1), by omega, rfl, hlt, p'⟩, fun x H' y => ?_⟩
    obtain ⟨T, z, rfl, hT, rfl, hz⟩ := y
    exact ⟨T, _, rfl, tOf upd_same, rfl, _, _, rfl, _, _, rfl, rfl, hs i z σ H _ (hz xs (e.sqL h)) pv (Ex.new hT)⟩
  · have : i = xs.length := by omega
    subst this
    exact .inl ⟨⟨xs, e.sqL h, Nat.le_refl _⟩, hd _ _ pv⟩
theorem x_while {tc : TT} {tb : TS} {D : Ends} {σ : L2.St} {H : Hp} (Pv : Nat → L2.St → Hp → Prop) (m : Nat) (h0 : Pv m σ H)
    (hs : ∀ m σ H, Pv m σ H → tc σ H fun b H1 => if b = true then ∃ N : L2.St → Hp → Prop, (∀ σ' H', N σ' H' → ∃ m', m' < m ∧ Pv m' σ' H') ∧ tb { D with nx := N, ct := N, bk := D.nx } σ H1 else D.nx σ H1) : tWhile tc tb D σ H :=
  ⟨Pv, ⟨m, h0⟩, fun m σ H p => hs m σ H p⟩
theorem x_whN {tb : TS} {D : Ends} {σ : L2.St} {H : Hp} {Pv : Nat → L2.St → Hp → Prop} {m : Nat} (h : tb { D with nx := fun σ' H' => ∃ m', m' < m ∧ Pv m' σ' H', ct := fun σ' H' => ∃ m', m' < m ∧ Pv m' σ' H', bk := D.nx } σ H) :
    ∃ N : L2.St → Hp → Prop, (∀ σ' H', N σ' H' → ∃ m', m' < m ∧ Pv m' σ' H') ∧ tb { D with nx := N, ct := N, bk := D.nx } σ H := ⟨_, fun _ _ h => h, h⟩

theorem wipe_set1 (σ : L2.St) (j : Nat) (v : Option V) : wipe ((wipe σ [j]).set j v) [j] = wipe σ [j] := by
  show ((σ.set j none).set j v).set j none = σ.set j none
  rw [List.set_set, List.set_set]
theorem lcf {J : It} {H1 : Hp} {xs : List V} (W : Wk J H1 xs) {j : Nat} {tt : TT} {te : TE} {σ : L2.St} {Q : Addr → Hp → Prop} (p : V → Bool) (f : V → V) (hz : xs.length ≤ 1000000)
    (ht : ∀ (i : Nat) x H' (Qb : Bool → Hp → Prop), xs[i]? = some x → Ex H1 H' → Qb (p x) H' → tt ((wipe σ [j]).set j (some x)) H' Qb)
    (hv : ∀ (i : Nat) x H' (Qv : VK), xs[i]? = some x → p x = true → Ex H1 H' → Qv (f x) H' → te ((wipe σ [j]).set j (some x)) H' Qv)
    (hd : ∀ D H', Ex H1 H' → H1 D = none → H' D = some (.lst ((xs.filter p).map f)) → Q D H') :
    ∀ D, H1 D = none → ∃ W : Nat → Nat → Hp → Prop, (∃ m, W 0 m (upd H1 D (.lst []))) ∧ ∀ i m H, W i m H →
      (J.stop i H ∧ Q D H) ∨ (J.go i H ∧ ∃ Nx : Hp → Prop, (∀ H', Nx H' → ∃ m', m' < m ∧ W (i + 1) m' H') ∧ ∀ x H', J.yld i H x H' → gName j x (wipe σ [j]) H' fun σ2 H2 => wipe σ2 [j] = wipe σ [j] ∧ tt σ2 H2 fun b H3 =>
        if b = true then te σ2 H3 fun y H4 => ∃ acc, H4 D = some (.lst acc) ∧ acc.length < sizeLine ∧ Nx (upd H4 D (.lst (acc ++ [y]))) else Nx H3) := by
  intro D hD
  refine ⟨fun i m H => m = xs.length - i ∧ i ≤ xs.length ∧ Ex H1 H ∧ H D = some (.lst (((xs.take i).filter p).map f)), ⟨_, rfl, Nat.zero_le _, Ex.new hD, upd_same⟩, ?_⟩
  rintro i m H ⟨rfl, hi, e, hl⟩
  by_cases hlt : i < xs.length
  · refine .inr ⟨W.go H i e hlt, fun H' => Ex H1 H' ∧ H' D = some (.lst (((xs.take (i + 1)).filter p).map f)), fun H' h => ⟨_, by omega, rfl, hlt, h⟩, fun x H' y => ?_⟩
    obtain ⟨rfl, hx⟩ := W.yl H i x H' e hlt y
    show wipe _ [j] = _ ∧ _
    refine ⟨wipe_set1 _ _ _, ht i x _ _ hx e ?_⟩
    cases hp : p x with
    | false =>
      rw [if_neg Bool.false_ne_true]
      refine ⟨e, ?_⟩
      rw [take_succ_of hx, List.filter_append]
      simp only [List.filter_cons, hp, List.filter_nil, List.append_nil, Bool.false_eq_true, if_false]
      exact hl
    | true =>
      rw [if_pos rfl]
      refine hv i x _ _ hx hp e ⟨_, hl, ?_, e.mut hD, ?_⟩
      · refine sz_lt ?_
        rw [List.length_map]
        refine Nat.lt_of_le_of_lt (List.length_filter_le _ _) ?_
        rw [List.length_take]
        omega
      · rw [upd_same, take_succ_of hx, List.filter_append, List.map_append]
        simp [List.filter_cons, hp]
  · have : i = xs.length := by omega
    subst this
    refine .inl ⟨W.st H _ e (Nat.le_refl _), hd D H e hD ?_⟩
    rw [List.take_length] at hl
    exact hl
def mkD (ks : List Int) : List (Key × V) := ks.foldl (fun m k => putK m (Sum.inl k) (.bl true)) []
theorem mkD_snoc (ks : List Int) (k : Int) : mkD (ks ++ [k]) = putK (mkD ks) (Sum.inl k) (.bl true) := by unfold mkD; rw [List.foldl_append]; rfl
theorem key_in_putK {kvs : List (Key × V)} {k : Key} {v : V} (q : Key) : q ∈ (putK kvs k v).map (·.1) ↔ q ∈ kvs.map (·.1) ∨ q = k := by
  unfold putK
  split
  · rename_i h
    have e : (kvs.map fun kv => if kv.1 = k then (kv.1, v) else kv).map (·.1) = kvs.map (·.1) := by
      rw [List.map_map]
      apply List.map_congr_left
      intro p _
      simp only [Function.comp]
      split <;> rfl
    rw [e]
    refine ⟨Or.inl, fun z => z.elim id fun z => ?_⟩
    subst z
    obtain ⟨p, hp, e⟩ := List.any_eq_true.mp h
    exact List.mem_map.mpr ⟨p, hp, of_decide_eq_true e⟩
  · rw [List.map_append, List.mem_append]
    simp
theorem mkD_fold : ∀ (ks : List Int) (acc : List (Key × V)) (q : Key), q ∈ (ks.foldl (fun m k => putK m (Sum.inl k) (.bl true)) acc).map (·.1) ↔ q ∈ acc.map (·.1) ∨ ∃ k ∈ ks, q = Sum.inl k
  | [], acc, q => by simp
  | k :: ks, acc, q => by
    rw [List.foldl_cons, mkD_fold ks, key_in_putK]
    simp only [List.mem_cons]
    constructor
    · rintro ((z | e) | ⟨z, hz, e⟩)
      · exact .inl z
      · exact .inr ⟨k, .inl rfl, e⟩
      · exact .inr ⟨z, .inr hz, e⟩
    · rintro (z | ⟨z, hz | hz, e⟩)
      · exact .inl (.inl z)
      · subst hz; exact .inl (.inr e)
      · exact .inr ⟨z, hz, e⟩
theorem mkD_mem (ks : List Int) (q : Key) : q ∈ (mkD ks).map (·.1) ↔ ∃ k ∈ ks, q = Sum.inl k := by
  unfold mkD
  rw [mkD_fold]
  simp
theorem valV_isSome {kvs : List (Key × V)} {q : Key} : (valV kvs q).isSome = true ↔ q ∈ kvs.map (fun p : Key × V => p.1) := by
  rw [← valV_any, List.any_eq_true, List.mem_map]
  constructor
  · rintro ⟨p, hp, e⟩; exact ⟨p, hp, of_decide_eq_true e⟩
  · rintro ⟨p, hp, e⟩; exact ⟨p, hp, decide_eq_true e⟩
theorem mkD_has (ks : List Int) (t : Int) : (valV (mkD ks) (Sum.inl t)).isSome = decide (t ∈ ks) := by
  rw [Bool.eq_iff_iff, decide_eq_true_iff, valV_isSome, mkD_mem]
  constructor
  · rintro ⟨k, hk, e⟩; cases e; exact hk
  · intro h; exact ⟨t, h, rfl⟩
theorem length_putK {kvs : List (Key × V)} {k : Key} {v : V} : (putK kvs k v).length ≤ kvs.length + 1 := by
  unfold putK
  split
  · rw [List.length_map]; omega
  · rw [List.length_append]; exact Nat.le_refl _
theorem mkD_len (ks : List Int) : (mkD ks).length ≤ ks.length := by
  have : ∀ (ks : List Int) (acc : List (Key × V)), (ks.foldl (fun m k => putK m (Sum.inl k) (.bl true)) acc).length ≤ acc.length + ks.length := by
    intro ks
    induction ks with
    | nil => intro acc; simp
    | cons k r ih =>
      intro acc
      rw [List.foldl_cons, List.length_cons]
      have a := ih (putK acc (Sum.inl k) (.bl true))
      have c := length_putK (kvs := acc) (k := Sum.inl k) (v := .bl true)
      omega
  have := this ks []
  simpa [mkD] using this
theorem mkD_nodup (ks : List Int) : ((mkD ks).map (·.1)).Nodup := by
  have : ∀ (ks : List Int) (acc : List (Key × V)), (acc.map (·.1)).Nodup → ((ks.foldl (fun m k => putK m (Sum.inl k) (.bl true)) acc).map (·.1)).Nodup := by
    intro ks
    induction ks with
    | nil => intro acc h; exact h
    | cons k r ih =>
      intro acc h
      refine ih _ ?_
      show ((putK acc (Sum.inl k) (.bl true)).map (·.1)).Nodup
      unfold putK
      split
      · rename_i hh
        have e : (acc.map fun kv => if kv.1 = Sum.inl k then (kv.1, V.bl true) else kv).map (·.1) = acc.map (·.1) := by
          rw [List.map_map]
          apply List.map_congr_left
          intro p _
          simp only [Function.comp]
          split <;> rfl
        rw [e]; exact h
      · rename_i hh
        rw [List.map_append, List.nodup_append]
        refine ⟨h, by simp, fun a ha b hb e => hh ?_⟩
        simp only [List.map_cons, List.map_nil, List.mem_singleton] at hb
        subst hb e
        obtain ⟨p, hp, e⟩ := List.mem_map.mp ha
        exact List.any_eq_true.mpr ⟨p, hp, decide_eq_true e⟩
  exact this ks [] List.nodup_nil
theorem mkD_keys (ks : List Int) : ∃ zs : List Int, (mkD ks).map (fun p => kV p.1) = zs.map V.int ∧ zs.Nodup ∧ (∀ z, z ∈ zs ↔ z ∈ ks) ∧ zs.length ≤ ks.length := by
  have key : ∀ kvs : List (Key × V), (∀ q ∈ kvs.map (·.1), ∃ k : Int, q = Sum.inl k) → (kvs.map (·.1)).Nodup → ∃ zs : List Int, kvs.map (fun p => kV p.1) = zs.map V.int ∧ zs.Nodup ∧ (∀ z, z ∈ zs ↔ (Sum.inl z : Key) ∈ kvs.map (·.1)) ∧ zs.length = kvs.length := by
    intro kvs
    induction kvs with
    | nil => intro _ _; exact ⟨[], rfl, List.nodup_nil, by simp, rfl⟩
    | cons p r ih =>
      intro h hn
      rw [List.map_cons, List.nodup_cons] at hn
      obtain ⟨zs, e1, e2, e3, e4⟩ := ih (fun q hq => h q (List.mem_cons_of_mem _ hq)) hn.2
      obtain ⟨k, ek⟩ := h p.1 List.mem_cons_self
      refine ⟨k :: zs, ?_, ?_, ?_, by simp [e4]⟩
      · rw [List.map_cons, List.map_cons, e1, ek]; rfl
      · rw [List.nodup_cons]
        refine ⟨fun hk => hn.1 ?_, e2⟩
        rw [ek]; exact (e3 k).mp hk
      · intro z
        rw [List.mem_cons, List.map_cons, List.mem_cons, e3, ek]
        constructor
        · rintro (e | e)
          · exact .inl (by rw [e])
          · exact .inr e
        · rintro (e | e)
          · exact .inl (Sum.inl.inj e)
          · exact .inr e
  obtain ⟨zs, e1, e2, e3, e4⟩ := key (mkD ks) (fun q hq => by obtain ⟨k, _, e⟩ := (mkD_mem ks q).mp hq; exact ⟨k, e⟩) (mkD_nodup ks)
  refine ⟨zs, e1, e2, fun z => ?_, by rw [e4]; exact mkD_len ks⟩
  rw [e3, mkD_mem]
  constructor
  · rintro ⟨k, hk, e⟩; cases e; exact hk
  · intro h; exact ⟨z, h, rfl⟩
theorem dcf {J : It} {H1 : Hp} {xs : List V} (W : Wk J H1 xs) {j : Nat} {tk tv : TE} {σ : L2.St} {Q : Addr → Hp → Prop} (f : Nat → Int) (hz : xs.length ≤ 1000000)
    (hk : ∀ (i : Nat) x H' (Qv : VK), xs[i]? = some x → Ex H1 H' → Qv (.int (f i)) H' → tk ((wipe σ [j]).set j (some x)) H' Qv)
    (hv : ∀ (i : Nat) x H' (Qv : VK), xs[i]? = some x → Ex H1 H' → Qv (.bl true) H' → tv ((wipe σ [j]).set j (some x)) H' Qv)
    (hd : ∀ D H', Ex H1 H' → H1 D = none → H' D = some (.dK (mkD ((List.range xs.length).map f))) → Q D H') :
    ∀ D, H1 D = none → ∃ W : Nat → Nat → Hp → Prop, (∃ m, W 0 m (upd H1 D (.dK []))) ∧ ∀ i m H, W i m H →
      (J.stop i H ∧ Q D H) ∨ (J.go i H ∧ ∃ Nx : Hp → Prop, (∀ H', Nx H' → ∃ m', m' < m ∧ W (i + 1) m' H') ∧ ∀ x H', J.yld i H x H' → gName j x (wipe σ [j]) H' fun σ2 H2 => wipe σ2 [j] = wipe σ [j] ∧ tYes σ2 H2 fun b H3 =>
        if b = true then tk σ2 H3 fun y H4 => tv σ2 H4 fun z H5 => ∃ kvs k, y = kV k ∧ H5 D = some (.dK kvs) ∧ kvs.length < sizeLine ∧ Nx (upd H5 D (.dK (putK kvs k z))) else Nx H3) := by
  intro D hD
  refine ⟨fun i m H => m = xs.length - i ∧ i ≤ xs.length ∧ Ex H1 H ∧ H D = some (.dK (mkD ((List.range i).map f))), ⟨_, rfl, Nat.zero_le _, Ex.new hD, upd_same⟩, ?_⟩
  rintro i m H ⟨rfl, hi, e, hl⟩
  by_cases hlt : i < xs.length
  · refine .inr ⟨W.go H i e hlt, fun H' => Ex H1 H' ∧ H' D = some (.dK (mkD ((List.range (i + 1)).map f))), fun H' h => ⟨_, by omega, rfl, hlt, h⟩, fun x H' y => ?_⟩
    obtain ⟨rfl, hx⟩ := W.yl H i x H' e hlt y
    show wipe _ [j] = _ ∧ _
    refine ⟨wipe_set1 _ _ _, ?_⟩
    show tYes ((wipe σ [j]).set j (some x)) H' _
    unfold tYes
    dsimp only
    rw [if_pos rfl]
    refine hk i x _ _ hx e (hv i x _ _ hx e ⟨_, Sum.inl (f i), rfl, hl, ?_, e.mut hD, ?_⟩)
    · refine sz_lt (Nat.lt_of_le_of_lt (mkD_len _) ?_)
      rw [List.length_map, List.length_range]
      omega
    · rw [upd_same, List.range_succ, List.map_append]
      show some (HO.dK _) = some (HO.dK (mkD (_ ++ [f i])))
      rw [mkD_snoc]
  · have : i = xs.length := by omega
    subst this
    exact .inl ⟨W.st H _ e (Nat.le_refl _), hd D H e hD hl⟩
end TkL


namespace TkL
open PySem PySem.Spec PySem.Calls PyProof.Rows L2
section
variable {X : Cx}
def kLen (K : PySem.W.Frag) : List V → Hp → VK → Prop := fun xs H Q => ∃ p ys, xs = [.ref p] ∧ (SqL K H p ys ∨ SqT K H p ys) ∧ Q (.int ys.length) H
theorem c_len : CallR X (.builtin "len") (kLen X.K) := call_len_seq
def kLenS : List V → Hp → VK → Prop := fun xs H Q => ∃ z, xs = [.str z] ∧ z.length ≤ sizeLine ∧ Q (.int z.length) H
theorem c_lenS : CallR X (.builtin "len") kLenS := call_len_str
def kIsi (K : PySem.W.Frag) : List V → Hp → VK → Prop := L2.rIsi K
theorem c_isi : CallR X (.builtin "isinstance") (kIsi X.K) := L2.call_isi
def kInt : List V → Hp → VK → Prop := fun xs H Q => (∃ i, xs = [.int i] ∧ Q (.int i) H) ∨ ∃ k, xs = [.bl k] ∧ Q (.int (if k then 1 else 0)) H
theorem c_int : CallR X (.type "int") kInt := call_int1
def kIntS : List V → Hp → VK → Prop := fun xs H Q => ∃ a n, xs = [.str a] ∧ PySem.intText? a = some n ∧ a.length ≤ 640 ∧ Q (.int n) H
theorem c_intS : CallR X (.type "int") kIntS := call_int_str
def kStr : List V → Hp → VK → Prop := fun xs H Q => ∃ i, xs = [.int i] ∧ i.natAbs.log2 < 1920 ∧ Q (.str (toString i)) H
theorem c_str : CallR X (.type "str") kStr := call_str_int
def kList (K : PySem.W.Frag) : List V → Hp → VK → Prop := fun xs H Q => ∃ p ys, xs = [.ref p] ∧ (SqL K H p ys ∨ SqT K H p ys) ∧ ∀ l, H l = none → Q (.ref l) (upd H l (.lst ys))
theorem c_list : CallR X (.type "list") (kList X.K) := call_list_of
def kTuple (K : PySem.W.Frag) : List V → Hp → VK → Prop := fun xs H Q => ∃ p ys, xs = [.ref p] ∧ ((SqL K H p ys ∧ ∀ l, H l = none → Q (.ref l) (upd H l (.tup ys))) ∨ (SqT K H p ys ∧ Q (.ref p) H))
theorem c_tuple : CallR X (.type "tuple") (kTuple X.K) := call_tuple_of
def kAbs : List V → Hp → VK → Prop := fun xs H Q => ∃ i, xs = [.int i] ∧ Q (.int (if i < 0 then -i else i)) H
theorem c_abs : CallR X (.builtin "abs") kAbs := call_abs
def mSplit : V → List V → Hp → VK → Prop := fun x xs H Q => ∃ a b, x = .str a ∧ xs = [.str b] ∧ (b.length == 0) = false ∧ a.length + 2 ≤ sizeLine ∧ rNewStrs (Txt.split a b) H Q
theorem m_split : MtR X "str.split" mSplit := mt_split
def rNotInSig : R2 := fun x y H Q => ∃ (c : Nat) (z : Str), x = .str ⟨#[c]⟩ ∧ y = .str z ∧ Q (.bl (!decide (c ∈ z.cps.toList))) H
theorem o_notInSig : OpR X (compareOp .NotIn) rNotInSig := op_notIn_sign
def rIsNon : R2 := fun x y H Q => y = .non ∧ Q (.bl (decide (x = .non))) H
theorem o_isNon : OpR X (compareOp .Is) rIsNon := op_isN
def rNotNon : R2 := fun x y H Q => y = .non ∧ Q (.bl (!decide (x = .non))) H
theorem o_notNon : OpR X (compareOp .IsNot) rNotNon := op_notN
def rAddS : R2 := fun x y H Q => ∃ i j, x = .str i ∧ y = .str j ∧ i.length + j.length ≤ sizeLine ∧ Q (.str (i ++ j)) H
theorem o_addS : OpR X (binaryOp .Add) rAddS := op_add_str
def tJoin (ts : List TE) : TE := fun σ H Q => tJs ts Str.empty σ H fun out H1 => Q (.str out) H1
theorem pe_join {v1 v2 : Expr} {rest : List Expr} {ts : List TE} {pos : Pos} (h : PJ X (v1 :: v2 :: rest) ts) : PE X (.JoinedStr (v1 :: v2 :: rest) pos) (tJoin ts) := pe_joined h
def iSeq (K : PySem.W.Frag) (tl : TE) : TI := fun σ H R => tl σ H fun x H1 => ∃ a xs, x = .ref a ∧ (SqL K H1 a xs ∨ SqT K H1 a xs) ∧ ∀ J, Wk J H1 xs → R J H1
theorem pi_seq {l tg : Expr} {tl : TE} (hl : PE X l tl) : PI X tg l (iSeq X.K tl) := by
  refine ⟨fun pins s σ H R I h => ?_⟩
  refine thn (hl.run pins s σ H _ I h) fun v s1 ⟨x, H1, I1, r1, a, xs, e, hq, q⟩ => ?_
  subst e
  cases r1
  rcases hq with hq | hq
  · obtain ⟨its, rv, p, hz⟩ := I1.list hq
    refine wpAny_pyIter_list p.isList ?_
    refine ⟨s1.heap.objs.size, [s1.heap.objs.size], _, _, H1, rfl, I1.kept (t' := s1.toks) fun b o e => Heap.get?_push_of_some _ e, turn_list a _, ⟨_, Heap.get?_push_size _ rfl, rfl, rfl⟩, fun b hb => ?_, q _ (Wk.list hq)⟩
    have e : b = s1.heap.objs.size := by simpa using hb
    subst e
    exact I1.fpOk (Nat.le_refl _) (I1.hok.fresh (Nat.le_refl _))
  · obtain ⟨its, rv, p, hz⟩ := I1.tuple hq
    refine wpAny_pyIter_tuple (show s1.heap.IsTuple a its.toArray from p) ?_
    refine ⟨s1.heap.objs.size, [s1.heap.objs.size], _, _, H1, rfl, I1.kept (t' := s1.toks) fun b o e => Heap.get?_push_of_some _ e, turn_tuple a _, ⟨_, Heap.get?_push_size _ rfl, rfl, rfl⟩, fun b hb => ?_, q _ (Wk.tup hq)⟩
    have e : b = s1.heap.objs.size := by simpa using hb
    subst e
    exact I1.fpOk (Nat.le_refl _) (I1.hok.fresh (Nat.le_refl _))
def GlobI (mg : Str → Option Value) (x : Str) (n : Int) : Prop := ∃ t, mg x = some (.int n t)
def GlobS (mg : Str → Option Value) (x : Str) (z : Str) : Prop := ∃ t, mg x = some (.str z t)
theorem pe_gi {x : Str} {n : Int} {pos : Pos} (h : GlobI X.mg x n) (hg : Gl X x := by rfl) (hd : (x == ("__debug__" : Str)) = false := by decide) : PE X (.Name x pos) (tC (.int n)) :=
  let ⟨t, e⟩ := h; pe_glob hg e ⟨t, rfl⟩ hd
theorem pe_gs {x : Str} {z : Str} {pos : Pos} (h : GlobS X.mg x z) (hg : Gl X x := by rfl) (hd : (x == ("__debug__" : Str)) = false := by decide) : PE X (.Name x pos) (tC (.str z)) :=
  let ⟨t, e⟩ := h; pe_glob hg e ⟨t, rfl⟩ hd
theorem pe_gc {x : Str} {C : Addr} {pos : Pos} (h : X.mg x = some (.ref C)) (hg : Gl X x := by rfl) (hd : (x == ("__debug__" : Str)) = false := by decide) : PE X (.Name x pos) (tC (.ref C)) :=
  pe_glob hg h rfl hd
theorem pe_bt {x : Str} {T : String} {pos : Pos} (hm : X.mg x = none) (hv : bootBuiltins x = some (.type T) := by decide +kernel) (hg : Gl X x := by rfl) (hn : x ≠ "__name__" := by decide) (hd : (x == ("__debug__" : Str)) = false := by decide) : PE X (.Name x pos) (tC (.ty T)) :=
  pe_bltn hg hm hv rfl hn hd
end
structure Blt (mg : Str → Option Value) : Prop where
  range : mg "range" = none
  len : mg "len" = none
  isinstance : mg "isinstance" = none
  bool : mg "bool" = none
  int : mg "int" = none
  list : mg "list" = none
  tuple : mg "tuple" = none
  str : mg "str" = none
  sum : mg "sum" = none
  all : mg "all" = none
  any : mg "any" = none
  sorted : mg "sorted" = none
  dict : mg "dict" = none
  max : mg "max" = none
  min : mg "min" = none
  divmod : mg "divmod" = none
  abs : mg "abs" = none
  enumerate : mg "enumerate" = none
structure Cst (mg : Str → Option Value) : Prop where
  MAX_TICK : GlobI mg "MAX_TICK" 1000000000000000000
  MAX_LENGTH : GlobI mg "MAX_LENGTH" 20000
  MAX_BEGIN : GlobI mg "MAX_BEGIN" 100000
  DIGITS : GlobS mg "DIGITS" "0123456789"
  MAX_DIGITS : GlobI mg "MAX_DIGITS" 6
  NEVER : GlobS mg "NEVER" "never"
  BAR : GlobS mg "BAR" "|"
structure RowC (K : PySem.W.Frag) (mg : Str → Option Value) (C : Addr) : Prop where
  own : OwnC K C
  ne : NeC K C
  gC : mg "Row" = some (.ref C)
  early : NoAttr K C "early"
  begin_ : NoAttr K C "begin"
  length : NoAttr K C "length"
  offsets : NoAttr K C "offsets"
  marks : NoAttr K C "marks"
  parts : NoAttr K C "parts"
  insC : L2.ClsV (.ref C) (.ref C) ∧ PySem.W.kitOne K (.ref C) (.ref C) = some true
end TkL


namespace TkL
open PySem PySem.Spec PySem.Calls PyProof.Rows L2
section
variable {X : Cx} {CX : CXT} {k i : Nat} {C : Addr} {m x : Str} {ps : List Str} {sp : Sp} {E : XK} {o e fe : Expr} {es : List Expr} {ta te tf : TE} {tt : TT} {t : TA} {p apos pos : Pos}
theorem rm1 {A : Around} (hr : Room k A) : A.units + 1 < cLine := by have := hr.un; omega
theorem rm64 {A : Around} (hr : Room k A) : A.units + 64 < cLine := by have := hr.un; omega
theorem ps_setDc {i : Nat} {y : Str} {py : Pos} {kx vx tg iter : Expr} {ifs : List Expr} {scope : Scope} {own : List (Str × Nat)} {pos spos : Pos} {wi : TI} {g : TG} {tt : TT} {tk tv : TE} (hc : X.calm = true) (hN : X.N.Nodup) (hy : X.N[i]? = some y) (hyl : X.env.scope.names.lookup y = some .local)
    (hsw : swapsWith (.DictComp kx vx [⟨tg, iter, ifs, 0⟩] scope pos) (some (.Name y py)) spos.line X.env = pure true) (hi : PI X tg iter wi) (ok : BlkOk X.N X.env.scope scope own)
    (hg : ∀ (s : Shared) (H : Hp) (C : Addr) (cl : List (Str × Addr)) (fp : List Addr), PG (X.blk s H scope (compEnvC scope cl C X.env) fp) tg g) (ht : ∀ (s : Shared) (H : Hp) (C : Addr) (cl : List (Str × Addr)) (fp : List Addr), PTs (X.blk s H scope (compEnvC scope cl C X.env) fp) ifs tt)
    (hk : ∀ (s : Shared) (H : Hp) (C : Addr) (cl : List (Str × Addr)) (fp : List Addr), PE (X.blk s H scope (compEnvC scope cl C X.env) fp) kx tk)
    (he : ∀ (s : Shared) (H : Hp) (C : Addr) (cl : List (Str × Addr)) (fp : List Addr), PE (X.blk s H scope (compEnvC scope cl C X.env) fp) vx tv) (hs : ∀ x, foldedSetIterable iter X.env x = pure x := by intro _; rfl) :
    PS X (.Assign [.Name y py] (.DictComp kx vx [⟨tg, iter, ifs, 0⟩] scope pos) spos) (tAsg (tDc wi g tt tk tv (own.map (·.2))) (gName i)) := by
  refine ⟨fun pins s σ H D I h => ?_⟩
  rw [exec_Assign_Name_used _ _ _ _ hsw]
  refine wpAny_bind (wpAny_standAt (wpAny_bind ?_))
  show wpAny _ X.A (do let _ ← comprehension (.DictComp kx vx [⟨tg, iter, ifs, 0⟩] scope pos) scope X.env (firstIterPos [⟨tg, iter, ifs, 0⟩] pos) newDict false (eval iter X.env) (some (assign (.Name y py) X.env))) _ _ s
  have h : tDc wi g tt tk tv (own.map (·.2)) σ H (fun x H1 => gName i x σ H1 D.nx) := h
  refine wpAny_bind (thn (dc_core (Qf := fun _ s' => SP X pins D .next s') hc hN I hi ok hg ht hk he hs h fun L C s' m H' I' q hn f => ?_) fun _ s' hq => wpAny_pure (wpAny_pure hq))
  show wpAny _ _ (assign (.Name y py) X.env (.ref L)) _ _ _
  refine wpAny_assign_Name (store_ok2 (v := V.ref L) I' hN hy (.inl hyl) rfl (fun s2 I2 ⟨a, sb, ha⟩ => ?_) (.inr hyl))
  obtain ⟨f0, f1, f2, f3, f4, f5⟩ := f
  have haC : C ≠ a := by
    rcases ha with z | z
    · rw [z]; exact f1
    · exact fun e => f4 y a z e.symm
  refine ⟨m, hn.sameBut sb haC, fun h3 sb3 => ?_⟩
  exact ⟨_, H', I2.turned (t' := s2.toks) (fun b o hb e => (sb3.2 b hb).trans e) f0 f1 f3 f4 f5, q⟩
theorem swd_true {kx vx : Expr} {gs : List Comprehension} {scope : Scope} {pos py : Pos} {y : Str} {l : Nat} {env : Env} (hk : env.scope.kind = .function) (hy : env.scope.names.lookup y = some .local) (hl : (py.line == pos.line) = true)
    (ha : (scope.names.any fun (n, k) => n == y && (k == .local || k == .cell)) = false) : swapsWith (.DictComp kx vx gs scope pos) (some (.Name y py)) l env = pure true := by
  have ky : env.kindOf y = some .local := hy
  have hb : env.blockKind = .function := by unfold Env.blockKind; rw [hk]; rfl
  unfold swapsWith
  simp only [hb, ky, ha, Expr.pos, hl]
  rfl
end
section
variable {σ : L2.St} {H : Hp} {Q : VK} {D : Ends} {t u : TS} {ta tb tc te tf : TE} {tt tu : TT} {A : TA} {v x y : V} {i : Nat} {K : PySem.W.Frag} {C : Addr} {sp : Sp} {E : XK}
theorem x_mk (h : A σ H fun vs H1 => ∀ (x dx : Addr), H1 x = none → H1 dx = none → dx ≠ x → sp (V.ref x :: vs) (upd (upd H1 dx (.own x)) x (.ins C dx [])) (fun v H2 => v = V.non ∧ Q (V.ref x) H2) E) : tMk C sp E A σ H Q := h
theorem x_mkV (hv : σ[i]? = some (some (V.ref C))) (h : A σ H fun vs H1 => ∀ (x dx : Addr), H1 x = none → H1 dx = none → dx ≠ x → sp (V.ref x :: vs) (upd (upd H1 dx (.own x)) x (.ins C dx [])) (fun v H2 => v = V.non ∧ Q (V.ref x) H2) E) : tMkV i C sp E A σ H Q := ⟨hv, h⟩
theorem x_exR {P : Addr → Prop} {a : Addr} (h : P a) : ∃ b, V.ref a = .ref b ∧ P b := ⟨a, rfl, h⟩
theorem x_isNonT {x : V} (h : Q (.bl (decide (x = .non))) H) : rIsNon x .non H Q := ⟨rfl, h⟩
theorem x_notNonT {x : V} (h : Q (.bl (!decide (x = .non))) H) : rNotNon x .non H Q := ⟨rfl, h⟩
theorem x_lst0 (h : ∀ p H', Ex H H' → H p = none → H' p = some (.lst []) → Q (.ref p) H') : tLst tNil σ H Q := ⟨Nat.zero_le _, x_new h⟩
theorem x_tup0 (h : ∀ p H', Ex H H' → H p = none → H' p = some (.tup []) → Q (.ref p) H') : tTup tNil σ H Q := ⟨Nat.zero_le _, x_new h⟩
theorem x_kint {i : Int} (h : Q (.int i) H) : kInt [.int i] H Q := .inl ⟨i, rfl, h⟩
theorem x_kintb {b : Bool} (h : Q (.int (if b then 1 else 0)) H) : kInt [.bl b] H Q := .inr ⟨b, rfl, h⟩
theorem x_gtup3 {p : Addr} {Q : L2.St → Hp → Prop} {u v w : V} {j l : Nat} (s : SqT K H p [u, v, w]) (h : Q (((σ.set i (some u)).set j (some v)).set l (some w)) H) : gTup K 3 (gCons (gName i) (gCons (gName j) (gCons (gName l) gNil))) (.ref p) σ H Q := ⟨p, _, rfl, s, rfl, _, _, rfl, _, _, rfl, _, _, rfl, rfl, h⟩
end
end TkL


namespace Tk
def cntLe (l : List Int) (t : Int) : Nat := (l.filter fun x => decide (x ≤ t)).length
def RV.count (r : RV) (t : Int) : Int := if t < r.beg then (cntLe r.early t : Nat) else (r.early.length : Nat) + (t - r.beg) / r.len * (r.offs.length : Nat) + (cntLe r.offs ((t - r.beg) % r.len) : Nat)
def RV.nth (r : RV) (n : Int) : Int := if n < r.early.length then r.early.getD n.toNat 0 else r.beg + (n - r.early.length) / r.offs.length * r.len + r.offs.getD ((n - r.early.length) % r.offs.length).toNat 0
def diffs : List Int → List Int
  | [] => []
  | [_] => []
  | a :: b :: l => (b - a) :: diffs (b :: l)
def RV.laps (r : RV) : List Int := diffs (r.offs ++ (r.offs.take 1).map (· + r.len))
def RV.flaps (r : RV) : List Int := diffs (r.early ++ (r.offs.take 1).map (r.beg + ·))
def tks : Int → List Int → List Int
  | a, [] => [a]
  | a, b :: l => a :: tks (a + b) l
def ticksOf : List Int → List Int
  | [] => []
  | a :: l => tks a l
structure RB (r : RV) : Prop where
  c : Canon r
  bb : r.beg ≤ 200000
  lb : r.len ≤ 20000
def planHas (s : Int) (fs ls : List Int) (t : Int) : Bool := qhas (tks s fs).dropLast (s + fs.sum) ls.sum (tks 0 ls).dropLast t
end Tk
namespace TkL
open PySem PySem.Spec PySem.Calls PyProof.Rows L2 Tk
def zI (l : List Int) : List V := l.map V.int
def rowFs (p1 : Addr) (b l : Int) (p2 p3 p4 : Addr) : List (Str × V) := [("early", .ref p1), ("begin", .int b), ("length", .int l), ("offsets", .ref p2), ("marks", .ref p3), ("parts", .ref p4)]
structure RowI (K : PySem.W.Frag) (C : Addr) (H : Hp) (a : Addr) (r : RV) (dx p1 p2 p3 p4 : Addr) : Prop where
  ob : H a = some (.ins C dx (rowFs p1 r.beg r.len p2 p3 p4))
  e : SqT K H p1 (zI r.early)
  o : SqT K H p2 (zI r.offs)
  m : H p3 = some (.dK (mkD r.offs))
  p : SqT K H p4 [.ref p1, .int r.beg, .int r.len, .ref p2]
  rb : RB r
def RowAt (K : PySem.W.Frag) (C : Addr) (H : Hp) (a : Addr) (r : RV) : Prop := ∃ dx p1 p2 p3 p4, RowI K C H a r dx p1 p2 p3 p4
def Seq (K : PySem.W.Frag) (H : Hp) (p : Addr) (xs : List V) : Prop := SqL K H p xs ∨ SqT K H p xs
structure TyF (K : PySem.W.Frag) (C : Addr) : Prop where
  row_row : PySem.W.kitOne K (.ref C) (.ref C) = some true
  insX : ∀ (H : Hp) (a dx : Addr) (fs : List (Str × V)), H a = some (.ins C dx fs) → TyX K H (.ref a) (.ref C)
  cl : Cls K C
  early : NoAttr K C "early"
  begin_ : NoAttr K C "begin"
  length : NoAttr K C "length"
  offsets : NoAttr K C "offsets"
  marks : NoAttr K C "marks"
  parts : NoAttr K C "parts"
  int_int : PySem.W.kitOne K (.type "int") (.type "int") = some true
  int_bool : PySem.W.kitOne K (.type "int") (.type "bool") = some false
  bool_int : PySem.W.kitOne K (.type "bool") (.type "int") = some true
  bool_bool : PySem.W.kitOne K (.type "bool") (.type "bool") = some true
  str_int : PySem.W.kitOne K (.type "str") (.type "int") = some false
  none_int : PySem.W.kitOne K (.type "NoneType") (.type "int") = some false
section
variable (K : PySem.W.Frag) (C : Addr)
def spIii : Sp := fun vs H Q _ => ∃ x lo hi, vs = [x, .int lo, .int hi] ∧ ((∃ i, x = .int i ∧ Q (.bl (decide (lo ≤ i) && decide (i ≤ hi))) H) ∨ ((∃ b, x = .bl b) ∨ x = .non ∨ ∃ z, x = .str z) ∧ Q (.bl false) H ∨ TyX K H x (.type "tuple") ∧ Q (.bl false) H)
def spInit : Sp := fun vs H Q _ => ∃ a dx p1 p2 r, vs = [.ref a, .ref p1, .int r.beg, .int r.len, .ref p2] ∧ H a = some (.ins C dx []) ∧ SqT K H p1 (zI r.early) ∧ SqT K H p2 (zI r.offs) ∧ RB r ∧
  ∀ H', (∀ x o, x ≠ a → H x = some o → H' x = some o) → RowAt K C H' a r → Q .non H'
def spEq : Sp := fun vs H Q _ => ∃ a b r s, vs = [.ref a, .ref b] ∧ RowAt K C H a r ∧ RowAt K C H b s ∧ Q (.bl (decide (r = s))) H
def spLaps : Sp := fun vs H Q _ => ∃ a r, vs = [.ref a] ∧ RowAt K C H a r ∧ ∀ H' p, Ex H H' → H' p = some (.tup (zI r.laps)) → Q (.ref p) H'
def spFlaps : Sp := fun vs H Q _ => ∃ a r, vs = [.ref a] ∧ RowAt K C H a r ∧ ∀ H' p, Ex H H' → H' p = some (.tup (zI r.flaps)) → Q (.ref p) H'
def spTicksOf : Sp := fun vs H Q _ => ∃ p ns, vs = [.ref p] ∧ SqL K H p (zI ns) ∧ ns ≠ [] ∧ ns.length ≤ 500000 ∧ ∀ H' q, Ex H H' → H q = none → H' q = some (.lst (zI (ticksOf ns))) → Q (.ref q) H'
def spShortest : Sp := fun vs H Q _ => ∃ l p o, vs = [.int l, .ref p] ∧ Seq K H p (zI o) ∧ 1 ≤ l ∧ l ≤ 20000 ∧ (∀ x ∈ o, 0 ≤ x ∧ x < l) ∧ o.length ≤ 20000 ∧ ∀ H' n, Ex H H' → Shortest l o n → Q (.int n) H'
def spNormal : Sp := fun vs H Q _ => ∃ pe po e b l o, vs = [.ref pe, .int b, .int l, .ref po] ∧ SqL K H pe (zI e) ∧ Seq K H po (zI o) ∧ WF e b l o ∧ b ≤ 200000 ∧ l ≤ 20000 ∧
  ∀ H' a r, Ex H H' → H a = none → RowAt K C H' a r → (∀ t, r.has t = qhas e b l o t) → Q (.ref a) H'
def spRowOfLaps : Sp := fun vs H Q _ => ∃ s pf pl fs ls, vs = [.int s, .ref pf, .ref pl] ∧ Seq K H pf (zI fs) ∧ Seq K H pl (zI ls) ∧ 0 ≤ s ∧ (∀ x ∈ fs, 1 ≤ x) ∧ (∀ x ∈ ls, 1 ≤ x) ∧ ls ≠ [] ∧ s + fs.sum ≤ 200000 ∧ ls.sum ≤ 20000 ∧
  ∀ H' a r, Ex H H' → H a = none → RowAt K C H' a r → (∀ t, r.has t = planHas s fs ls t) → Q (.ref a) H'
def spRowOfTicks : Sp := fun vs H Q _ => ∃ p ts, vs = [.ref p] ∧ SqL K H p (zI ts) ∧ ts ≠ [] ∧ ts.Pairwise (· < ·) ∧ (∀ x ∈ ts, 0 ≤ x ∧ x < 200000) ∧
  ∀ H' a r, Ex H H' → H a = none → RowAt K C H' a r → (∀ t, r.has t = decide (t ∈ ts)) → Q (.ref a) H'
end

def rdig (c : Nat) : Bool := decide (c ∈ ("0123456789" : Str).cps.toList)
def readN (w : Str) : Option Int := if 1 ≤ w.length ∧ w.length ≤ 6 ∧ w.cps.toList.all rdig = true ∧ ¬ (1 < w.length ∧ w.cps.toList[0]? = some 48) then PySem.intText? w else none
def readV (w : Str) : V := match readN w with | none => .non | some n => .int n
abbrev PSt : Type := List Int × Option Nat
def stepP (place : Nat) (w : Str) (s : PSt) : Option PSt :=
  if w = "|" ∧ s.2 = none ∧ 0 < place then some (s.1, some s.1.length)
  else match readN w with
    | none => none
    | some n => if (n = 0 ∧ 0 < place) ∨ 100000 < n then none else match s.2 with
      | none => if 100000 < (s.1 ++ [n]).sum then none else some (s.1 ++ [n], none)
      | some b => if 20000 < ((s.1 ++ [n]).drop b).sum then none else some (s.1 ++ [n], some b)
def runP : Nat → List Str → PSt → Option PSt
  | _, [], s => some s
  | i, w :: ws, s => match stepP i w s with
    | none => none
    | some s' => runP (i + 1) ws s'
def parseSet (z : Str) : Option (Int → Bool) :=
  if z = "never" then some fun _ => false
  else match runP 0 (Txt.split z " ") ([], none) with
    | none => none
    | some (ns, none) => some fun t => decide (t ∈ ticksOf ns)
    | some (ns, some b) => if b = ns.length then none else some (planHas (ns.getD 0 0) ((ns.drop 1).take (b - 1)) (ns.drop b))
section
variable (K : PySem.W.Frag) (C : Addr)
def spReadNumber : Sp := fun vs H Q _ => ∃ w : Str, vs = [.str w] ∧ w.length ≤ sizeLine ∧ ∀ H', Ex H H' → Q (readV w) H'
def spParse : Sp := fun vs H Q _ => ∃ z S, vs = [.ref C, .str z] ∧ z.length ≤ 100000 ∧ parseSet z = some S ∧ ∀ H' a r, Ex H H' → H a = none → RowAt K C H' a r → (∀ t, r.has t = S t) → Q (.ref a) H'
structure WFD (ds : List Int) : Prop where
  l2 : 2 ≤ ds.length
  nn : ∀ x ∈ ds, 0 ≤ x
  sm : ds.getD 0 0 < 2147483647
def DAt (d : Addr) (H : Hp) : Prop := ∃ ds, H d = some (.lst (zI ds)) ∧ WFD ds
def Kp (d : Addr) (H H' : Hp) : Prop := ∀ x o, x ≠ d → H x = some o → H' x = some o
def spRandom : Sp := fun vs H Q _ => ∃ p ns salt, vs = [.ref p, .int salt] ∧ SqL K H p (zI ns) ∧ ns.length ≤ 63 ∧ 0 ≤ salt ∧ salt < 1000 ∧ ∀ H' d, Ex H H' → H d = none → DAt d H' → Q (.ref d) H'
def spBelow : Sp := fun vs H Q _ => ∃ d n, vs = [.ref d, .int n] ∧ DAt d H ∧ 0 < n ∧ n < 1073741824 ∧ ∀ H' v, Kp d H H' → DAt d H' → 0 ≤ v → v < n → Q (.int v) H'
end
def spLaw (K : PySem.W.Frag) : Sp := fun vs H Q _ => ∃ (a : Addr) (ns : List Int), vs = [.ref a] ∧ SqL K H a (ns.map V.int) ∧ ns.length ≤ 63 ∧ ∀ H', Q (.bl true) H'
end TkL



namespace TkL
open PySem PySem.Spec PySem.Calls PyProof.Rows L2 Tk
section
variable (K : PySem.W.Frag) (C : Addr)
def tPis_int_in : TS := (tRet (tAndV (tCB (kIsi K) (tCons (tVar 0) (tCons (tC (.ty "int")) tNil))) (tAndV (tNotV (tCB (kIsi K) (tCons (tVar 0) (tCons (tC (.ty "bool")) tNil)))) (tChain (rI0 fun i j => V.bl (decide (i ≤ j))) (rI0 fun i j => V.bl (decide (i ≤ j))) (tVar 1) (tVar 0) (tVar 2)))))
def tRinit : TS := (tSeq (sFld K (tVar 0) (tVar 1) "early")
    (tSeq (sFld K (tVar 0) (tVar 2) "begin")
    (tSeq (sFld K (tVar 0) (tVar 3) "length")
    (tSeq (sFld K (tVar 0) (tVar 4) "offsets")
    (tSeq (sFld K (tVar 0) (tDc (iTup K (tVar 4)) (gName 5) tYes (tVar 5) (tC (.bl true)) [5]) "marks")
    (sFld K (tVar 0) (tTup (tCons (tVar 1) (tCons (tVar 2) (tCons (tVar 3) (tCons (tVar 4) tNil))))) "parts"))))))
def tRlaps : TS := (tSeq (tAsg (tLst tNil) (gName 1))
    (tSeq (tFor (iEnumA K (tCons (tFld K (tVar 0) "offsets") tNil)) (gTup K 2 (gCons (gName 2) (gCons (gName 3) gNil))) (tSeq (tAsg (tOp rEq (tOp (rI0 fun i j => V.int (i + j)) (tVar 2) (tC (.int 1))) (tCB (kLen K) (tCons (tFld K (tVar 0) "offsets") tNil))) (gName 4))
    (tDrop (tBM K "list" rAppend (tVar 1) (tCons (tOp (rI0 fun i j => V.int (i - j)) (tIf (tB (tVar 4)) (tOp (rI0 fun i j => V.int (i + j)) (tOp (rIxT K) (tFld K (tVar 0) "offsets") (tC (.int 0))) (tFld K (tVar 0) "length")) (tOp (rIxT K) (tFld K (tVar 0) "offsets") (tOp (rI0 fun i j => V.int (i + j)) (tVar 2) (tC (.int 1))))) (tVar 3)) tNil)))))
    (tRet (tCB (kTuple K) (tCons (tVar 1) tNil)))))
def tRfirst_laps : TS := (tSeq (tAsg (tCB (kList K) (tCons (tFld K (tVar 0) "early") tNil)) (gName 1))
    (tSeq (tIfS (tTest (tOp (rNeD K) (tFld K (tVar 0) "offsets") (tTup tNil))) (tDrop (tBM K "list" rAppend (tVar 1) (tCons (tOp (rI0 fun i j => V.int (i + j)) (tFld K (tVar 0) "begin") (tOp (rIxT K) (tFld K (tVar 0) "offsets") (tC (.int 0)))) tNil))) tNext)
    (tRet (tCB (kTuple K) (tCons (tLc (iRng1 (tCons (tOp (rI0 fun i j => V.int (i - j)) (tCB (kLen K) (tCons (tVar 1) tNil)) (tC (.int 1))) tNil)) (gName 2) tYes (tOp (rI0 fun i j => V.int (i - j)) (tOp (rIxL K) (tVar 1) (tOp (rI0 fun i j => V.int (i + j)) (tVar 2) (tC (.int 1)))) (tOp (rIxL K) (tVar 1) (tVar 2))) [2]) tNil)))))
def tPread_number : TS := (tSeq (tIfS (tOr (tNot (tTest (tChain (rI0 fun i j => V.bl (decide (i ≤ j))) (rI0 fun i j => V.bl (decide (i ≤ j))) (tC (.int 1)) (tCB kLenS (tCons (tVar 0) tNil)) (tC (.int 6))))) (tB (tCB (rAny K) (tCons (tLc (iStr (tVar 0)) (gName 1) tYes (tOp rNotInSig (tVar 1) (tC (.str "0123456789"))) [1]) tNil)))) (tRet (tC .non)) tNext)
    (tRet (tIf (tAnd (tTest (tOp (rI0 fun i j => V.bl (decide (j < i))) (tCB kLenS (tCons (tVar 0) tNil)) (tC (.int 1)))) (tTest (tOp rEq (tOp rIxS (tVar 0) (tC (.int 0))) (tC (.str "0"))))) (tC .non) (tCB kIntS (tCons (tVar 0) tNil)))))
def tPticks_of : TS := (tSeq (tAsg (tLst (tCons (tOp (rIxL K) (tVar 0) (tC (.int 0))) tNil)) (gName 1))
    (tSeq (tFor (iList K (L2.tSl (rSlL K) (tVar 0) (tPart (tC (.int 1))) tNoPart)) (gName 2) (tDrop (tBM K "list" rAppend (tVar 1) (tCons (tOp (rI0 fun i j => V.int (i + j)) (tOp (rIxL K) (tVar 1) (tUn (rU fun i => V.int (-i)) (tC (.int 1)))) (tVar 2)) tNil))))
    (tRet (tVar 1))))
def tProw_of_ticks : TS := (tRet (tDef (spNormal K C) E0 (tCons (tVar 0) (tCons (tOp (rI0 fun i j => V.int (i + j)) (tOp (rIxL K) (tVar 0) (tUn (rU fun i => V.int (-i)) (tC (.int 1)))) (tC (.int 1))) (tCons (tC (.int 1)) (tCons (tLst tNil) tNil))))))
def tProw_of_laps : TS := (tSeq (tAsg (tDef (spTicksOf K) E0 (tCons (tOp rCat (tLst (tCons (tVar 0) tNil)) (tCB (kList K) (tCons (tVar 1) tNil))) tNil)) (gName 3))
    (tSeq (tAsg (tBM0 K "list" rPop (tVar 3)) (gName 4))
    (tSeq (tAsg (tDef (spTicksOf K) E0 (tCons (tOp rCat (tLst (tCons (tC (.int 0)) tNil)) (tCB (kList K) (tCons (tVar 2) tNil))) tNil)) (gName 5))
    (tSeq (tAsg (tBM0 K "list" rPop (tVar 5)) (gName 6))
    (tRet (tDef (spNormal K C) E0 (tCons (tVar 3) (tCons (tVar 4) (tCons (tVar 6) (tCons (tVar 5) tNil))))))))))
def tPshortest : TS := (tSeq (tAsg (tDc (iSeq K (tVar 1)) (gName 4) tYes (tVar 4) (tC (.bl true)) [4]) (gName 2))
    (tSeq (tFor (iRng2 (tCons (tC (.int 1)) (tCons (tVar 0) tNil))) (gName 3) (tIfS (tAnd (tTest (tOp rEq (tOp (rI (fun _ j => 0 < j) fun i j => V.int (i % j)) (tVar 0) (tVar 3)) (tC (.int 0)))) (tB (tCB (rAll K) (tCons (tLc (iSeq K (tVar 1)) (gName 4) tYes (tDIn (tOp (rI (fun _ j => 0 < j) fun i j => V.int (i % j)) (tOp (rI0 fun i j => V.int (i + j)) (tVar 4) (tVar 3)) (tVar 0)) (tVar 2)) [4]) tNil)))) (tRet (tVar 3)) tNext))
    (tRet (tVar 0))))
def tPnormal : TS := (tSeq (tIfS (tTest (tOp rEq (tCB (kLen K) (tCons (tVar 3) tNil)) (tC (.int 0)))) (tRet (tMk C (spInit K C) E0 (tCons (tCB (kTuple K) (tCons (tVar 0) tNil)) (tCons (tIf (tTest (tOp (rI0 fun i j => V.bl (decide (j < i))) (tCB (kLen K) (tCons (tVar 0) tNil)) (tC (.int 0)))) (tOp (rI0 fun i j => V.int (i + j)) (tOp (rIxL K) (tVar 0) (tUn (rU fun i => V.int (-i)) (tC (.int 1)))) (tC (.int 1))) (tC (.int 0))) (tCons (tC (.int 1)) (tCons (tTup tNil) tNil)))))) tNext)
    (tSeq (tAsg (tDef (spShortest K) E0 (tCons (tVar 2) (tCons (tVar 3) tNil))) (gName 4))
    (tSeq (tAsg (tDc (iSeq K (tVar 3)) (gName 11) tYes (tOp (rI (fun _ j => 0 < j) fun i j => V.int (i % j)) (tVar 11) (tVar 4)) (tC (.bl true)) [11]) (gName 5))
    (tSeq (tAsg (tTup (tCons (tVar 1) (tCons (tC (.int 0)) (tCons (tCB (kLen K) (tCons (tVar 0) tNil)) tNil)))) (gTup K 3 (gCons (gName 6) (gCons (gName 7) (gCons (gName 8) gNil)))))
    (tSeq (tWhile (tTest (tOp (rI0 fun i j => V.bl (decide (j < i))) (tVar 6) (tC (.int 0)))) (tSeq (tAsg (tAndV (tOp (rI0 fun i j => V.bl (decide (j < i))) (tVar 8) (tC (.int 0))) (tOp rEq (tOp (rIxL K) (tVar 0) (tOp (rI0 fun i j => V.int (i - j)) (tVar 8) (tC (.int 1)))) (tOp (rI0 fun i j => V.int (i - j)) (tVar 6) (tC (.int 1))))) (gName 10))
    (tSeq (tIfS (tTest (tOp rNe (tVar 10) (tDIn (tOp (rI (fun _ j => 0 < j) fun i j => V.int (i % j)) (tOp (rI0 fun i j => V.int (i - j)) (tUn (rU fun i => V.int (-i)) (tC (.int 1))) (tVar 7)) (tVar 4)) (tVar 5)))) tBreak tNext)
    (tAsg (tTup (tCons (tOp (rI0 fun i j => V.int (i - j)) (tVar 6) (tC (.int 1))) (tCons (tOp (rI0 fun i j => V.int (i + j)) (tVar 7) (tC (.int 1))) (tCons (tOp (rI0 fun i j => V.int (i - j)) (tVar 8) (tCB kInt (tCons (tVar 10) tNil))) tNil)))) (gTup K 3 (gCons (gName 6) (gCons (gName 7) (gCons (gName 8) gNil))))))))
    (tSeq (tLock (tAsg (tLc (iKeys (tVar 5)) (gName 12) tYes (tOp (rI (fun _ j => 0 < j) fun i j => V.int (i % j)) (tOp (rI0 fun i j => V.int (i + j)) (tVar 12) (tVar 7)) (tVar 4)) [12]) (gName 9)))
    (tRet (tMk C (spInit K C) E0 (tCons (tCB (kTuple K) (tCons (L2.tSl (rSlL K) (tVar 0) tNoPart (tPart (tVar 8))) tNil)) (tCons (tVar 6) (tCons (tVar 4) (tCons (tCB (kTuple K) (tCons (tCB (rSortedI K) (tCons (tLc (iList K (tVar 9)) (gName 12) tYes (tCB kInt (tCons (tVar 12) tNil)) [12]) tNil)) tNil)) tNil))))))))))))
def tRparse : TS := (tSeq (tIfS (tTest (tOp rEq (tVar 1) (tC (.str "never")))) (tRet (tMkV 0 C (spInit K C) E0 (tCons (tTup tNil) (tCons (tC (.int 0)) (tCons (tC (.int 1)) (tCons (tTup tNil) tNil)))))) tNext)
    (tSeq (tAsg (tBM K "str" mSplit (tVar 1) (tCons (tC (.str " ")) tNil)) (gName 2))
    (tSeq (tPar 3 4 (tCons (tLst tNil) (tCons (tC .non) tNil)))
    (tSeq (tFor (iEnumA K (tCons (tVar 2) tNil)) (gTup K 2 (gCons (gName 5) (gCons (gName 6) gNil))) (tIfS (tAnd (tTest (tOp rEq (tVar 6) (tC (.str "|")))) (tAnd (tTest (tOp rIsNon (tVar 4) (tC .non))) (tTest (tOp (rI0 fun i j => V.bl (decide (j < i))) (tVar 5) (tC (.int 0)))))) (tAsg (tCB (kLen K) (tCons (tVar 3) tNil)) (gName 4)) (tSeq (tAsg (tDef (spReadNumber) E0 (tCons (tVar 6) tNil)) (gName 7))
    (tSeq (tIfS (tOr (tTest (tOp rIsNon (tVar 7) (tC .non))) (tOr (tAnd (tTest (tOp rEq (tVar 7) (tC (.int 0)))) (tTest (tOp (rI0 fun i j => V.bl (decide (j < i))) (tVar 5) (tC (.int 0))))) (tTest (tOp (rI0 fun i j => V.bl (decide (j < i))) (tVar 7) (tC (.int 100000)))))) tNever tNext)
    (tSeq (tDrop (tBM K "list" rAppend (tVar 3) (tCons (tVar 7) tNil)))
    (tIfS (tOr (tAnd (tTest (tOp rIsNon (tVar 4) (tC .non))) (tTest (tOp (rI0 fun i j => V.bl (decide (j < i))) (tCB (rSum K) (tCons (tVar 3) tNil)) (tC (.int 100000))))) (tAnd (tTest (tOp rNotNon (tVar 4) (tC .non))) (tTest (tOp (rI0 fun i j => V.bl (decide (j < i))) (tCB (rSum K) (tCons (L2.tSl (rSlL K) (tVar 3) (tPart (tVar 4)) tNoPart) tNil)) (tC (.int 20000)))))) tNever tNext))))))
    (tSeq (tIfS (tTest (tOp rIsNon (tVar 4) (tC .non))) (tRet (tDef (spRowOfTicks K C) E0 (tCons (tDef (spTicksOf K) E0 (tCons (tVar 3) tNil)) tNil))) tNext)
    (tSeq (tIfS (tTest (tOp rEq (tVar 4) (tCB (kLen K) (tCons (tVar 3) tNil)))) tNever tNext)
    (tRet (tDef (spRowOfLaps K C) E0 (tCons (tOp (rIxL K) (tVar 3) (tC (.int 0))) (tCons (L2.tSl (rSlL K) (tVar 3) (tPart (tC (.int 1))) (tPart (tVar 4))) (tCons (L2.tSl (rSlL K) (tVar 3) (tPart (tVar 4)) tNoPart) tNil)))))))))))
def tLrandom : TS := (tSeq (tAsg (tVar 1) (gName 2))
    (tSeq (tFor (iList K (tVar 0)) (gName 3) (tAsg (tOp (rI (fun _ j => 0 < j) fun i j => V.int (i % j)) (tOp (rI0 fun i j => V.int (i + j)) (tOp (rI CMul fun i j => V.int (i * j)) (tVar 2) (tC (.int 31))) (tCB kAbs (tCons (tVar 3) tNil))) (tC (.int 2147483647))) (gName 2)))
    (tRet (tOp rCat (tLst (tCons (tVar 2) (tCons (tC (.int 0)) tNil))) (tLc (iList K (tVar 0)) (gName 3) (tTest (tOp (rI0 fun i j => V.bl (decide (j ≤ i))) (tVar 3) (tOp (rI CPow fun i j => V.int (i ^ j.toNat)) (tC (.int 10)) (tC (.int 18))))) (tVar 3) [3])))))
def tLbelow : TS := (tSeq (tIfS (tAnd (tTest (tOp rEq (tOp (rIxL K) (tVar 0) (tC (.int 1))) (tC (.int 0)))) (tTest (tOp (rI0 fun i j => V.bl (decide (j < i))) (tCB (kLen K) (tCons (tVar 0) tNil)) (tC (.int 2))))) (tAsg (tBM K "list" rPopAt (tVar 0) (tCons (tC (.int 2)) tNil)) (gSub (tVar 0) (tC (.int 1)) rSetL)) tNext)
    (tSeq (tIfS (tTest (tOp (rI0 fun i j => V.bl (decide (j < i))) (tOp (rIxL K) (tVar 0) (tC (.int 1))) (tC (.int 0)))) (tSeq (tAsg (tOp (rI (fun _ j => 0 < j) fun i j => V.int (i % j)) (tOp (rIxL K) (tVar 0) (tC (.int 1))) (tVar 1)) (gName 2))
    (tSeq (tAsg (tOp (rI CDiv fun i j => V.int (i / j)) (tOp (rIxL K) (tVar 0) (tC (.int 1))) (tVar 1)) (gSub (tVar 0) (tC (.int 1)) rSetL))
    (tRet (tVar 2)))) tNext)
    (tSeq (tAsg (tOp (rI (fun _ j => 0 < j) fun i j => V.int (i % j)) (tOp (rI0 fun i j => V.int (i + j)) (tOp (rI CMul fun i j => V.int (i * j)) (tOp (rIxL K) (tVar 0) (tC (.int 0))) (tC (.int 48271))) (tC (.int 11))) (tC (.int 2147483647))) (gSub (tVar 0) (tC (.int 0)) rSetL))
    (tRet (tOp (rI (fun _ j => 0 < j) fun i j => V.int (i % j)) (tOp (rI CDiv fun i j => V.int (i / j)) (tOp (rIxL K) (tVar 0) (tC (.int 0))) (tC (.int 64))) (tVar 1))))))
def tReq : TS := (tRet (tAndV (tCB (kIsi K) (tCons (tVar 1) (tCons (tC (.ref C)) tNil))) (tOp (rEqD K) (tFld K (tVar 0) "parts") (tFld K (tVar 1) "parts"))))
end
end TkL


local macro_rules | `(tactic| walk_at "rd") => do
  let nms (s : String) := (s.splitOn " ").toArray.map fun x => Lean.mkIdent x.toName
  let r1 ← (nms "TkL.x_ifS TkL.x_asg TkL.x_name TkL.x_c TkL.x_op TkL.x_un TkL.x_rI0 TkL.x_rU TkL.x_nil TkL.x_cons TkL.x_notV TkL.x_andV TkL.x_orV TkL.x_exB TkL.x_exI TkL.x_if TkL.x_B TkL.x_test TkL.x_and TkL.x_or TkL.x_not TkL.x_chain TkL.x_cb TkL.x_def TkL.x_par TkL.x_parEx TkL.x_par3 TkL.x_par3Ex TkL.x_fld TkL.x_sfld TkL.x_met TkL.x_prp TkL.x_bm TkL.x_bm0 TkL.x_sl TkL.x_noPart TkL.x_part TkL.x_ins TkL.x_mk TkL.x_exR").mapM fun (x : Lean.Ident) => `(tactic| with_reducible refine $x:ident ?_)
  let t1 ← `(tactic| first $[| $r1:tactic]*)
  let r2 ← (nms "TkL.x_kint TkL.x_kintb TkL.x_isNonT TkL.x_notNonT TkL.x_lst0 TkL.x_tup0").mapM fun (x : Lean.Ident) => `(tactic| with_reducible refine $x:ident ?_)
  let t2 ← `(tactic| first $[| $r2:tactic]*)
  `(tactic| repeat (first
  | (with_reducible refine TkL.x_seq ?_) | ((with_reducible refine TkL.x_next ?_); dsimp only) | (with_reducible refine TkL.x_drop ?_) | ((with_reducible refine TkL.x_ret ?_); dsimp only) | ((with_reducible refine TkL.x_retN ?_); dsimp only) | ($t1:tactic)
  | ((with_reducible refine TkL.x_break ?_); dsimp only) | ((with_reducible refine TkL.x_cont ?_); dsimp only) | ($t2:tactic)
  | ((with_reducible refine TkL.x_aug (v := ?_) ?_ ?_); rotate_left; exact rfl) | (with_reducible refine TkL.x_ipI ?_)
  | ((with_reducible refine TkL.x_var (v := ?_) ?_ ?_); rotate_left; exact rfl)))
namespace TkL
open PySem PySem.Spec PySem.Calls PyProof.Rows L2 Tk

theorem ex_of {H H' : Hp} {p : Addr} {o : HO} (h : upd H p o = H') (hp : H p = none) : Ex H H' := by subst h; exact Ex.new hp
theorem at_of {H H' : Hp} {p : Addr} {o : HO} (h : upd H p o = H') : H' p = some o := by subst h; exact upd_same
section
variable {K : PySem.W.Frag} {C : Addr} {H H' : Hp} {a dx p1 p2 p3 p4 : Addr} {r : RV} {Q : VK}
theorem RowI.ex (I : RowI K C H a r dx p1 p2 p3 p4) (e : Ex H H') : RowI K C H' a r dx p1 p2 p3 p4 := ⟨e _ _ I.ob, e.sqT I.e, e.sqT I.o, e _ _ I.m, e.sqT I.p, I.rb⟩
theorem RowAt.ex (I : RowAt K C H a r) (e : Ex H H') : RowAt K C H' a r := by
  obtain ⟨dx, p1, p2, p3, p4, I⟩ := I
  exact ⟨dx, p1, p2, p3, p4, I.ex e⟩
theorem lk_early {x y z u v w : V} : ([("early", x), ("begin", y), ("length", z), ("offsets", u), ("marks", v), ("parts", w)] : List (Str × V)).lookup (("early" : Str)) = some x := rfl
theorem lk_begin {x y z u v w : V} : ([("early", x), ("begin", y), ("length", z), ("offsets", u), ("marks", v), ("parts", w)] : List (Str × V)).lookup (("begin" : Str)) = some y := rfl
theorem lk_length {x y z u v w : V} : ([("early", x), ("begin", y), ("length", z), ("offsets", u), ("marks", v), ("parts", w)] : List (Str × V)).lookup (("length" : Str)) = some z := rfl
theorem lk_offsets {x y z u v w : V} : ([("early", x), ("begin", y), ("length", z), ("offsets", u), ("marks", v), ("parts", w)] : List (Str × V)).lookup (("offsets" : Str)) = some u := rfl
theorem lk_parts {x y z u v w : V} : ([("early", x), ("begin", y), ("length", z), ("offsets", u), ("marks", v), ("parts", w)] : List (Str × V)).lookup (("parts" : Str)) = some w := rfl
variable (T : TyF K C) (I : RowI K C H a r dx p1 p2 p3 p4)
include T I
theorem fl_early {Q : V → Prop} (h : Q (.ref p1)) : ∃ a' C' dx' fs v, V.ref a = .ref a' ∧ H a' = some (.ins C' dx' fs) ∧ Cls K C' ∧ NoAttr K C' "early" ∧ fs.lookup (("early" : Str)) = some v ∧ Q v := ⟨_, _, _, _, _, rfl, I.ob, T.cl, T.early, lk_early, h⟩
theorem fl_begin {Q : V → Prop} (h : Q (.int r.beg)) : ∃ a' C' dx' fs v, V.ref a = .ref a' ∧ H a' = some (.ins C' dx' fs) ∧ Cls K C' ∧ NoAttr K C' "begin" ∧ fs.lookup (("begin" : Str)) = some v ∧ Q v := ⟨_, _, _, _, _, rfl, I.ob, T.cl, T.begin_, lk_begin, h⟩
theorem fl_length {Q : V → Prop} (h : Q (.int r.len)) : ∃ a' C' dx' fs v, V.ref a = .ref a' ∧ H a' = some (.ins C' dx' fs) ∧ Cls K C' ∧ NoAttr K C' "length" ∧ fs.lookup (("length" : Str)) = some v ∧ Q v := ⟨_, _, _, _, _, rfl, I.ob, T.cl, T.length, lk_length, h⟩
theorem fl_offsets {Q : V → Prop} (h : Q (.ref p2)) : ∃ a' C' dx' fs v, V.ref a = .ref a' ∧ H a' = some (.ins C' dx' fs) ∧ Cls K C' ∧ NoAttr K C' "offsets" ∧ fs.lookup (("offsets" : Str)) = some v ∧ Q v := ⟨_, _, _, _, _, rfl, I.ob, T.cl, T.offsets, lk_offsets, h⟩
theorem fl_parts {Q : V → Prop} (h : Q (.ref p4)) : ∃ a' C' dx' fs v, V.ref a = .ref a' ∧ H a' = some (.ins C' dx' fs) ∧ Cls K C' ∧ NoAttr K C' "parts" ∧ fs.lookup (("parts" : Str)) = some v ∧ Q v := ⟨_, _, _, _, _, rfl, I.ob, T.cl, T.parts, lk_parts, h⟩
end
section
variable {K : PySem.W.Frag} {C : Addr} {H : Hp} {Q : VK}
theorem zI_len {l : List Int} : (zI l).length = l.length := List.length_map _
theorem zI_get {l : List Int} {i : Nat} {x : V} (h : (zI l)[i]? = some x) : ∃ n, l[i]? = some n ∧ x = .int n := by
  unfold zI at h
  rw [List.getElem?_map] at h
  cases e : l[i]? with
  | none => rw [e] at h; cases h
  | some n => rw [e] at h; exact ⟨n, rfl, (Option.some.inj h).symm⟩
theorem kisi {x t : V} {tv cv : Value} {b : Bool} (ht : TyX K H x tv) (hc : ClsV t cv) (e : PySem.W.kitOne K tv cv = some b) (h : Q (.bl b) H) : kIsi K [x, t] H Q := ⟨_, _, _, _, _, rfl, hc, ht, e, h⟩
theorem x_lenT {p : Addr} {ys : List Int} (s : SqT K H p (zI ys)) (h : Q (.int ys.length) H) : kLen K [.ref p] H Q := ⟨p, _, rfl, .inr s, by rw [zI_len]; exact h⟩
theorem x_lenL {p : Addr} {ys : List Int} (s : SqL K H p (zI ys)) (h : Q (.int ys.length) H) : kLen K [.ref p] H Q := ⟨p, _, rfl, .inl s, by rw [zI_len]; exact h⟩
theorem x_din {ty td : TE} {σ : L2.St} {t : Int} {p : Addr} {o : List Int} (hy : ∀ P : VK, P (.int t) H → ty σ H P) (hd : ∀ P : VK, P (.ref p) H → td σ H P) (hm : Rd H p (.dK (mkD o))) (h : Q (.bl (decide (t ∈ o))) H) : tDIn ty td σ H Q :=
  hy _ (hd _ ⟨p, _, rfl, .inl ⟨_, Sum.inl t, hm, rfl, rfl⟩, by rw [mkD_has]; exact h⟩)
end
section
variable {K : PySem.W.Frag} {C : Addr}
theorem rdPis_int_in (T : TyF K C) (vs : List V) (H : Hp) (Q : VK) (E : XK) (h : spIii K vs H Q E) : tPis_int_in K { nx := fun _ H' => Q .non H', rt := Q } (start ["value", "low", "high"] vs) H := by
  obtain ⟨x, lo, hi, rfl, h⟩ := h
  unfold tPis_int_in
  walk_at "rd"
  rcases h with ⟨i, rfl, h⟩ | ⟨⟨b, rfl⟩ | rfl | ⟨z, rfl⟩, h⟩ | ⟨ht, h⟩
  · refine kisi (.base (.int i)) (.ty "int") T.int_int ?_
    walk_at "rd"
    refine iteT ?_
    walk_at "rd"
    refine kisi (.base (.int i)) (.ty "bool") T.int_bool ?_
    walk_at "rd"
    refine iteT ?_
    walk_at "rd"
    refine x_iteD (fun c => ?_) (fun c => ?_)
    · walk_at "rd"
      rw [decide_eq_true c, Bool.true_and] at h
      exact h
    · rw [decide_eq_false c, Bool.false_and] at h
      exact h
  · refine kisi (.base (.bl b)) (.ty "int") T.bool_int ?_
    walk_at "rd"
    refine iteT ?_
    walk_at "rd"
    refine kisi (.base (.bl b)) (.ty "bool") T.bool_bool ?_
    walk_at "rd"
    exact iteF h
  · refine kisi (.base .non) (.ty "int") T.none_int ?_
    walk_at "rd"
    exact iteF h
  · refine kisi (.base (.str z)) (.ty "int") T.str_int ?_
    walk_at "rd"
    exact iteF h
  · refine kisi (b := false) ht (.ty "int") (L2.kit_ty (by decide +kernel)) ?_
    walk_at "rd"
    exact iteF h
end
end TkL


namespace TkL
open PySem PySem.Spec PySem.Calls PyProof.Rows L2 Tk
section
variable {K : PySem.W.Frag} {C : Addr} {H : Hp} {Q : VK} {σ : L2.St} {wi : TI} {g : TG} {tt : TT} {te tl : TE} {vs : List Nat}
def onI (p : Int → Bool) : V → Bool
  | .int n => p n
  | _ => false
def mapI (f : Int → V) : V → V
  | .int n => f n
  | x => x
theorem mapInt {xs : List Int} {p : Int → Bool} {f : Int → V} : ((zI xs).filter (onI p)).map (mapI f) = (xs.filter p).map f := by
  unfold zI
  induction xs with
  | nil => rfl
  | cons a l ih =>
    have e : onI p (V.int a) = p a := rfl
    rw [List.map_cons, List.filter_cons, List.filter_cons, e]
    cases p a with
    | true => rw [if_pos rfl, if_pos rfl, List.map_cons, List.map_cons, ih]; rfl
    | false => rw [if_neg Bool.false_ne_true, if_neg Bool.false_ne_true, ih]
theorem zI_mem {l : List Int} {i : Nat} {x : V} (h : (zI l)[i]? = some x) : ∃ n, n ∈ l ∧ x = .int n := by
  obtain ⟨n, hn, e⟩ := zI_get h
  exact ⟨n, List.mem_of_getElem? hn, e⟩
theorem lcfI {J : It} {H1 : Hp} {xs : List Int} (W : Wk J H1 (zI xs)) {j : Nat} {tt : TT} {te : TE} {σ : L2.St} {Q : Addr → Hp → Prop} (p : Int → Bool) (f : Int → V) (hz : xs.length ≤ 1000000)
    (ht : ∀ n H' (Qb : Bool → Hp → Prop), n ∈ xs → Ex H1 H' → Qb (p n) H' → tt ((wipe σ [j]).set j (some (.int n))) H' Qb)
    (hv : ∀ n H' (Qv : VK), n ∈ xs → p n = true → Ex H1 H' → Qv (f n) H' → te ((wipe σ [j]).set j (some (.int n))) H' Qv)
    (hd : ∀ D H', Ex H1 H' → H1 D = none → H' D = some (.lst ((xs.filter p).map f)) → Q D H') :
    ∀ D, H1 D = none → ∃ W : Nat → Nat → Hp → Prop, (∃ m, W 0 m (upd H1 D (.lst []))) ∧ ∀ i m H, W i m H →
      (J.stop i H ∧ Q D H) ∨ (J.go i H ∧ ∃ Nx : Hp → Prop, (∀ H', Nx H' → ∃ m', m' < m ∧ W (i + 1) m' H') ∧ ∀ x H', J.yld i H x H' → gName j x (wipe σ [j]) H' fun σ2 H2 => wipe σ2 [j] = wipe σ [j] ∧ tt σ2 H2 fun b H3 =>
        if b = true then te σ2 H3 fun y H4 => ∃ acc, H4 D = some (.lst acc) ∧ acc.length < sizeLine ∧ Nx (upd H4 D (.lst (acc ++ [y]))) else Nx H3) := by
  refine lcf W (onI p) (mapI f) (by rw [zI_len]; exact hz) (fun i x H' Qb hx e q => ?_) (fun i x H' Qv hx hp e q => ?_) (fun D H' e h1 h2 => ?_)
  · obtain ⟨n, hn, rfl⟩ := zI_mem hx
    exact ht n H' Qb hn e q
  · obtain ⟨n, hn, rfl⟩ := zI_mem hx
    exact hv n H' Qv hn hp e q
  · rw [mapInt] at h2
    exact hd D H' e h1 h2
theorem x_lc (h : wi σ H fun J H1 => ∀ D, H1 D = none → ∃ W : Nat → Nat → Hp → Prop, (∃ m, W 0 m (upd H1 D (.lst []))) ∧ ∀ i m H, W i m H →
      (J.stop i H ∧ Q (.ref D) H) ∨ (J.go i H ∧ ∃ Nx : Hp → Prop, (∀ H', Nx H' → ∃ m', m' < m ∧ W (i + 1) m' H') ∧ ∀ x H', J.yld i H x H' → g x (wipe σ vs) H' fun σ2 H2 => wipe σ2 vs = wipe σ vs ∧ tt σ2 H2 fun b H3 =>
        if b = true then te σ2 H3 fun y H4 => ∃ acc, H4 D = some (.lst acc) ∧ acc.length < sizeLine ∧ Nx (upd H4 D (.lst (acc ++ [y]))) else Nx H3)) : tLc wi g tt te vs σ H Q := h
theorem x_dc {tk tv : TE} (h : wi σ H fun J H1 => ∀ D, H1 D = none → ∃ W : Nat → Nat → Hp → Prop, (∃ m, W 0 m (upd H1 D (.dK []))) ∧ ∀ i m H, W i m H →
      (J.stop i H ∧ Q (.ref D) H) ∨ (J.go i H ∧ ∃ Nx : Hp → Prop, (∀ H', Nx H' → ∃ m', m' < m ∧ W (i + 1) m' H') ∧ ∀ x H', J.yld i H x H' → g x (wipe σ vs) H' fun σ2 H2 => wipe σ2 vs = wipe σ vs ∧ tt σ2 H2 fun b H3 =>
        if b = true then tk σ2 H3 fun y H4 => tv σ2 H4 fun z H5 => ∃ kvs k, y = kV k ∧ H5 D = some (.dK kvs) ∧ kvs.length < sizeLine ∧ Nx (upd H5 D (.dK (putK kvs k z))) else Nx H3)) : tDc wi g tt tk tv vs σ H Q := h
theorem x_itup {R : It → Hp → Prop} (h : tl σ H fun x H1 => ∃ a, x = .ref a ∧ (∃ xs, SqT K H1 a xs) ∧ R (Itt K a) H1) : iTup K tl σ H R := h
theorem x_ilist {R : It → Hp → Prop} (h : tl σ H fun x H1 => ∃ a, x = .ref a ∧ (∃ xs, SqL K H1 a xs) ∧ R (Itl K a) H1) : iList K tl σ H R := h
theorem len_of_range : ∀ {l : List Int} {b c : Int}, l.Pairwise (· < ·) → (∀ x ∈ l, b ≤ x ∧ x < c) → b ≤ c → (l.length : Int) ≤ c - b
  | [], b, c, _, _, h => by simp; omega
  | a :: l, b, c, hp, hr, h => by
    have ha := hr a List.mem_cons_self
    have := len_of_range (b := a + 1) (c := c) (List.pairwise_cons.mp hp).2 (fun x hx => ⟨by have := (List.pairwise_cons.mp hp).1 x hx; omega, (hr x (List.mem_cons_of_mem _ hx)).2⟩) (by omega)
    rw [List.length_cons]
    omega
theorem _root_.Tk.RB.el {r : RV} (h : RB r) : (r.early.length : Int) ≤ r.beg := by have := len_of_range h.c.wf.es h.c.wf.er h.c.wf.b0; omega
theorem _root_.Tk.RB.ol {r : RV} (h : RB r) : (r.offs.length : Int) ≤ r.len := by have := len_of_range h.c.wf.os h.c.wf.ow (by have := h.c.wf.l1; omega); omega
theorem _root_.Tk.RB.el2 {r : RV} (h : RB r) : r.early.length ≤ 200000 := by have := h.el; have := h.bb; omega
theorem _root_.Tk.RB.ol2 {r : RV} (h : RB r) : r.offs.length ≤ 20000 := by have := h.ol; have := h.lb; omega
end
section
variable {K : PySem.W.Frag} {C : Addr}
end
end TkL


namespace TkL
open PySem PySem.Spec PySem.Calls PyProof.Rows L2 Tk
section
variable {K : PySem.W.Frag} {C : Addr} {H : Hp} {Q : VK} {σ : L2.St}
theorem lay_int : ∀ l : List Int, PyData.canLayAll0 (l.map PyData.int) = true
  | [] => rfl
  | a :: l => by show (true && PyData.canLayAll0 (l.map PyData.int)) = true; rw [lay_int l]; rfl
theorem dep_int : ∀ l : List Int, PyData.depthAll (l.map PyData.int) = 0
  | [] => rfl
  | a :: l => by show max 0 (PyData.depthAll (l.map PyData.int)) = 0; rw [dep_int l]; rfl
theorem eqv_int : ∀ l m : List Int, PyData.eqvAll (l.map PyData.int) (m.map PyData.int) = decide (l = m)
  | [], [] => rfl
  | [], _ :: _ => rfl
  | _ :: _, [] => rfl
  | a :: l, b :: m => by
    show ((a == b) && PyData.eqvAll (l.map PyData.int) (m.map PyData.int)) = _
    rw [eqv_int l m, Bool.eq_iff_iff]
    simp
theorem shp_tup (l : List Int) : SeqAt.shaped (.tuple (l.map PyData.int)) = true := by
  have h1 : PyData.canLay0 (.tuple (l.map PyData.int)) = true := lay_int l
  have h2 : PyData.depth (.tuple (l.map PyData.int)) = 1 := by show PyData.depthAll (l.map PyData.int) + 1 = 1; rw [dep_int l]
  unfold SeqAt.shaped
  rw [h1, h2]
  rfl
theorem shp_parts (l m : List Int) (a b : Int) : SeqAt.shaped (.tuple [.tuple (l.map PyData.int), .int a, .int b, .tuple (m.map PyData.int)]) = true := by
  have h1 : PyData.canLay0 (.tuple [.tuple (l.map PyData.int), .int a, .int b, .tuple (m.map PyData.int)]) = true := by
    show (PyData.canLayAll0 (l.map PyData.int) && (true && (true && (PyData.canLayAll0 (m.map PyData.int) && true)))) = true
    rw [lay_int l, lay_int m]; rfl
  have h2 : PyData.depth (.tuple [.tuple (l.map PyData.int), .int a, .int b, .tuple (m.map PyData.int)]) = 2 := by
    show max (PyData.depthAll (l.map PyData.int) + 1) (max 0 (max 0 (max (PyData.depthAll (m.map PyData.int) + 1) 0))) + 1 = 2
    rw [dep_int l, dep_int m]; rfl
  unfold SeqAt.shaped
  rw [h1, h2]
  rfl
theorem eqv_parts (l m l' m' : List Int) (a b a' b' : Int) : PyData.eqv (.tuple [.tuple (l.map PyData.int), .int a, .int b, .tuple (m.map PyData.int)]) (.tuple [.tuple (l'.map PyData.int), .int a', .int b', .tuple (m'.map PyData.int)]) = (decide (l = l') && (decide (a = a') && (decide (b = b') && decide (m = m')))) := by
  show (PyData.eqvAll (l.map PyData.int) (l'.map PyData.int) && ((a == a') && ((b == b') && (PyData.eqvAll (m.map PyData.int) (m'.map PyData.int) && true)))) = _
  rw [eqv_int, eqv_int, Bool.eq_iff_iff]
  simp
theorem dp_zI : ∀ l : List Int, DpAll K H (zI l) (l.map PyData.int)
  | [] => .nil
  | a :: l => .cons (.int a) (dp_zI l)
theorem dp_tup {p : Addr} {l : List Int} (s : SqT K H p (zI l)) : Dp K H (.ref p) (.tuple (l.map PyData.int)) := .tup s (dp_zI l)
theorem x_neT {p q : Addr} {l m : List Int} (s : SqT K H p (zI l)) (t : SqT K H q (zI m)) (h : Q (.bl (!decide (l = m))) H) : rNeD K (.ref p) (.ref q) H Q :=
  ⟨_, _, dp_tup s, dp_tup t, shp_tup l, shp_tup m, by show Q (.bl (!PyData.eqvAll (l.map PyData.int) (m.map PyData.int))) H; rw [eqv_int]; exact h⟩
theorem atI_zI {l : List Int} {n : Int} (h0 : 0 ≤ n) (h1 : n < l.length) : atI (zI l) n = some (.int (l.getD n.toNat 0)) := by
  unfold atI ixN
  rw [zI_len, if_pos h0, if_pos h1]
  show (zI l)[n.toNat]? = _
  unfold zI
  rw [List.getElem?_map]
  have hn : n.toNat < l.length := by omega
  rw [List.getD_eq_getElem?_getD, List.getElem?_eq_getElem hn]
  rfl
theorem atI_last {l : List Int} {x : Int} : atI (zI (l ++ [x])) (-1) = some (.int x) := by
  unfold atI ixN
  rw [zI_len, if_neg (by omega), List.length_append, List.length_singleton, if_pos (by omega)]
  have e : (-1 + ((l.length + 1 : Nat) : Int)).toNat = l.length := by omega
  show (zI (l ++ [x]))[_]? = _
  rw [e]
  unfold zI
  rw [List.map_append, List.getElem?_append_right (by simp)]
  simp
end
section
variable {K : PySem.W.Frag} {C : Addr}
theorem rdReq (T : TyF K C) (vs : List V) (H : Hp) (Q : VK) (E : XK) (h : spEq K C vs H Q E) : tReq K C { nx := fun _ H' => Q .non H', rt := Q } (start ["self", "other"] vs) H := by
  unfold tReq
  obtain ⟨a, b, r, s, rfl, ⟨dx, p1, p2, p3, p4, I⟩, ⟨dy, q1, q2, q3, q4, J⟩, h⟩ := h
  walk_at "rd"
  refine kisi (T.insX _ _ _ _ J.ob) (.own C) T.row_row ?_
  walk_at "rd"
  refine iteT ?_
  walk_at "rd"
  refine fl_parts T I ?_
  walk_at "rd"
  refine fl_parts T J ?_
  refine ⟨.tuple [.tuple (r.early.map PyData.int), .int r.beg, .int r.len, .tuple (r.offs.map PyData.int)], .tuple [.tuple (s.early.map PyData.int), .int s.beg, .int s.len, .tuple (s.offs.map PyData.int)], ?_, ?_, shp_parts _ _ _ _, shp_parts _ _ _ _, ?_⟩
  · exact .tup I.p (.cons (dp_tup I.e) (.cons (.int _) (.cons (.int _) (.cons (dp_tup I.o) .nil))))
  · exact .tup J.p (.cons (dp_tup J.e) (.cons (.int _) (.cons (.int _) (.cons (dp_tup J.o) .nil))))
  · rw [eqv_parts]
    have e : (decide (r.early = s.early) && (decide (r.beg = s.beg) && (decide (r.len = s.len) && decide (r.offs = s.offs)))) = decide (r = s) := by
      rw [Bool.eq_iff_iff]
      simp only [Bool.and_eq_true, decide_eq_true_iff]
      constructor
      · rintro ⟨h1, h2, h3, h4⟩; exact RV.ext' h1 h2 h3 h4
      · rintro rfl; exact ⟨rfl, rfl, rfl, rfl⟩
    rw [e]
    exact h
end
end TkL


namespace Tk
theorem diffs_len : ∀ l : List Int, (diffs l).length = l.length - 1
  | [] => rfl
  | [_] => rfl
  | a :: b :: l => by
    have := diffs_len (b :: l)
    show (diffs (b :: l)).length + 1 = _
    rw [this]; rfl
theorem diffs_get : ∀ {l : List Int} {i : Nat}, i + 1 < l.length → (diffs l)[i]? = some (l.getD (i + 1) 0 - l.getD i 0)
  | [], i, h => by simp at h
  | [_], i, h => by simp at h
  | a :: b :: l, 0, h => rfl
  | a :: b :: l, i + 1, h => by
    have := diffs_get (l := b :: l) (i := i) (by simpa using h)
    show (diffs (b :: l))[i]? = _
    rw [this]; rfl
theorem diffs_range (l : List Int) : diffs l = (List.range (l.length - 1)).map fun i => l.getD (i + 1) 0 - l.getD i 0 := by
  apply List.ext_getElem?
  intro i
  by_cases h : i + 1 < l.length
  · rw [diffs_get h, List.getElem?_map, List.getElem?_range (by omega)]; rfl
  · rw [List.getElem?_eq_none (by rw [diffs_len]; omega), List.getElem?_eq_none (by simp; omega)]
end Tk
namespace TkL
open PySem PySem.Spec PySem.Calls PyProof.Rows L2 Tk
section
variable {K : PySem.W.Frag} {C : Addr} {H : Hp} {Q : VK} {σ : L2.St}
theorem zI_snoc {l : List Int} {x : Int} : zI l ++ [V.int x] = zI (l ++ [x]) := by unfold zI; simp
theorem zI_app {l m : List Int} : zI l ++ zI m = zI (l ++ m) := by unfold zI; simp
theorem x_ty {L : Addr} {l : List V} {P : Prop} (hl : H L = some (.lst l)) (h : P) : tyV K "list" (.ref L) H ∧ P := ⟨.inl ⟨rfl, _, lOf hl⟩, h⟩
theorem x_appR {L : Addr} {l : List Int} {x : Int} (hl : H L = some (.lst (zI l))) (hz : l.length < 1000000) (h : Q .non (upd H L (.lst (zI (l ++ [x]))))) : rAppend (.ref L) [.int x] H Q := by
  refine ⟨L, _, _, rfl, rfl, hl, sz_lt (by rw [zI_len]; exact hz), ?_⟩
  rw [zI_snoc]; exact h
theorem x_tupL {L : Addr} {l : List V} (hl : H L = some (.lst l)) (h : ∀ p H', Ex H H' → H p = none → H' p = some (.tup l) → Q (.ref p) H') : kTuple K [.ref L] H Q := ⟨L, l, rfl, .inl ⟨lOf hl, x_new h⟩⟩
theorem x_listT {p : Addr} {l : List V} (s : Seq K H p l) (h : ∀ q H', Ex H H' → H q = none → H' q = some (.lst l) → Q (.ref q) H') : kList K [.ref p] H Q := ⟨p, l, rfl, s, x_new h⟩
theorem x_enT {A : TA} {R : It → Hp → Prop} (h : A σ H fun vs H1 => ∃ a xs, vs = [.ref a] ∧ ((SqL K H1 a xs ∧ R (Ite K a) H1) ∨ (SqT K H1 a xs ∧ R (IteT K a) H1))) : iEnumA K A σ H R := h
theorem take_next {l : List Int} {i : Nat} {x : Int} (h : l[i]? = some x) : l.take i ++ [x] = l.take (i + 1) := (take_succ_of h).symm
end
section
variable {K : PySem.W.Frag} {C : Addr}
theorem rdRlaps (T : TyF K C) (vs : List V) (H : Hp) (Q : VK) (E : XK) (h : spLaps K C vs H Q E) : tRlaps K { nx := fun _ H' => Q .non H', rt := Q } (start ["self", "found", "place", "offset", "is_last"] vs) H := by
  obtain ⟨a, r, rfl, ⟨dx, p1, p2, p3, p4, I⟩, h⟩ := h
  unfold tRlaps
  walk_at "rd"
  intro L H1 e1 hL hl1
  have I1 := I.ex e1
  walk_at "rd"
  refine x_for (x_enT ?_)
  walk_at "rd"
  refine fl_offsets T I1 ?_
  walk_at "rd"
  refine ⟨_, _, rfl, .inr ⟨I1.o, ?_⟩⟩
  have hN : r.laps.length = r.offs.length := by
    unfold RV.laps
    rw [diffs_len, List.length_append, List.length_map, List.length_take]
    omega
  refine for_enT I.o (fun i σ H' => ∃ u v w, σ = [some (.ref a), some (.ref L), u, v, w] ∧ Ex H H' ∧ H' L = some (.lst (zI (r.laps.take i)))) ⟨_, _, _, rfl, e1, hl1⟩ (fun i σ H' ⟨_, _, _, _, e, _⟩ => e) ?_ ?_
  · rintro i x σ H2 H3 hx ⟨u, v, w, rfl, e2, hl⟩ e3
    obtain ⟨n, hn, rfl⟩ := zI_get hx
    have hi := lt_of_get hn
    have e23 := e2.trans e3
    have I3 := I.ex e23
    have hl3 := e3 _ _ hl
    have hd : r.laps[i]? = some ((if i + 1 = r.offs.length then r.offs.getD 0 0 + r.len else r.offs.getD (i + 1) 0) - n) := by
      unfold RV.laps
      have ho : r.offs.take 1 = [r.offs.getD 0 0] := by cases hh : r.offs with
        | nil => rw [hh] at hi; simp at hi
        | cons b l => rfl
      rw [ho, List.map_singleton, diffs_get (by rw [List.length_append, List.length_singleton]; omega)]
      simp only [List.getD_eq_getElem?_getD]
      rw [List.getElem?_append_left hi, hn]
      by_cases c : i + 1 = r.offs.length
      · rw [if_pos c, c, List.getElem?_append_right (Nat.le_refl _)]
        simp
      · rw [if_neg c, List.getElem?_append_left (by omega)]
        simp
    have fin : ∀ z, z = (if i + 1 = r.offs.length then r.offs.getD 0 0 + r.len else r.offs.getD (i + 1) 0) - n → Ex H (upd H3 L (.lst (zI (r.laps.take i ++ [z])))) ∧ (upd H3 L (.lst (zI (r.laps.take i ++ [z])))) L = some (.lst (zI (r.laps.take (i + 1)))) := fun z hz => by
      subst hz
      exact ⟨e23.mut hL, by rw [upd_same, take_next hd]⟩
    walk_at "rd"
    refine fl_offsets T I3 ?_
    walk_at "rd"
    refine x_lenT I3.o ?_
    refine x_rEq rfl ?_
    walk_at "rd"
    refine x_ty hl3 ?_
    walk_at "rd"
    by_cases c : i + 1 = r.offs.length
    · have e : decide (V.int ((i : Int) + 1) = V.int r.offs.length) = true := decide_eq_true (by rw [← c]; rfl)
      rw [e]
      refine iteT ?_
      walk_at "rd"
      refine fl_offsets T I3 ?_
      walk_at "rd"
      refine x_ixT I3.o (atI_zI (by omega) (by omega)) ?_
      walk_at "rd"
      refine fl_length T I3 ?_
      walk_at "rd"
      refine x_appR hl3 (by rw [List.length_take]; have := I.rb.ol2; omega) ?_
      exact ⟨_, _, _, rfl, fin _ (by rw [if_pos c]; rfl)⟩
    · have e : decide (V.int ((i : Int) + 1) = V.int r.offs.length) = false := decide_eq_false fun z => c (by have := V.int.inj z; omega)
      rw [e]
      refine iteF ?_
      walk_at "rd"
      refine fl_offsets T I3 ?_
      walk_at "rd"
      refine x_ixT I3.o (atI_zI (by omega) (by omega)) ?_
      walk_at "rd"
      refine x_appR hl3 (by rw [List.length_take]; have := I.rb.ol2; omega) ?_
      exact ⟨_, _, _, rfl, fin _ (by rw [if_neg c]; rfl)⟩
  · rintro σ H2 ⟨u, v, w, rfl, e2, hl⟩
    walk_at "rd"
    rw [zI_len, ← hN, List.take_length] at hl
    exact x_tupL hl fun p H' e hp ht => h H' p (e2.trans e) ht
theorem rdRfirst_laps (T : TyF K C) (vs : List V) (H : Hp) (Q : VK) (E : XK) (h : spFlaps K C vs H Q E) : tRfirst_laps K { nx := fun _ H' => Q .non H', rt := Q } (start ["self", "ticks", "place"] vs) H := by
  obtain ⟨a, r, rfl, ⟨dx, p1, p2, p3, p4, I⟩, h⟩ := h
  unfold tRfirst_laps
  walk_at "rd"
  refine fl_early T I ?_
  walk_at "rd"
  refine x_listT (.inr I.e) fun L H1 e1 hL hl1 => ?_
  have I1 := I.ex e1
  walk_at "rd"
  refine fl_offsets T I1 ?_
  walk_at "rd"
  intro p H2 e2 hp ht
  have I2 := I1.ex e2
  have hl2 := e2 _ _ hl1
  refine x_neT (l := r.offs) (m := []) I2.o (tOf ht) ?_
  walk_at "rd"
  have rest : ∀ (ts : List Int) (H3 : Hp) (u : Option V), Ex H H3 → H3 L = some (.lst (zI ts)) → r.flaps = diffs ts → ts.length ≤ 300000 → tRet (tCB (kTuple K) (tCons (tLc (iRng1 (tCons (tOp (rI0 fun i j => V.int (i - j)) (tCB (kLen K) (tCons (tVar 1) tNil)) (tC (.int 1))) tNil)) (gName 2) tYes (tOp (rI0 fun i j => V.int (i - j)) (tOp (rIxL K) (tVar 1) (tOp (rI0 fun i j => V.int (i + j)) (tVar 2) (tC (.int 1)))) (tOp (rIxL K) (tVar 1) (tVar 2))) [2]) tNil)) { nx := fun x H' => Q V.non H', rt := Q } [some (.ref a), some (.ref L), u] H3 := fun ts H3 u e3 hl3 hf hz => by
    walk_at "rd"
    refine x_lc ?_
    unfold iRng1
    walk_at "rd"
    refine x_lenL (lOf hl3) ?_
    walk_at "rd"
    refine ⟨_, rfl, by omega, by omega, ?_⟩
    have en : ((ts.length : Int) - 1).toNat = ts.length - 1 := by omega
    rw [en]
    refine lcf (Wk.rng (lo := 0)) (fun _ => true) (fun x => match x with | .int i => .int (ts.getD (i.toNat + 1) 0 - ts.getD i.toNat 0) | x => x) (by rw [rngV_length]; omega) (fun i x H4 Qb hx e q => ?_) (fun i x H4 Qv hx _ e q => ?_) (fun D H4 e hD hl => ?_)
    · exact q
    · have hi := lt_of_get hx
      rw [rngV_length] at hi
      rw [rngV_get hi] at hx
      cases hx
      have hl4 := e _ _ hl3
      walk_at "rd"
      refine x_ixL (lOf hl4) (atI_zI (by omega) (by omega)) ?_
      walk_at "rd"
      refine x_ixL (lOf hl4) (atI_zI (by omega) (by omega)) ?_
      walk_at "rd"
      have e5 : ((0 : Int) + (i : Int) + 1).toNat = ((0 : Int) + (i : Int)).toNat + 1 := by omega
      rw [e5]
      exact q
    · walk_at "rd"
      refine x_tupL hl fun p H5 e5 hp ht => h H5 p (e3.trans (e.trans e5)) ?_
      rw [ht, hf, diffs_range]
      congr 2
      unfold rngV zI
      rw [List.filter_eq_self.mpr (fun _ _ => rfl), List.map_map, List.map_map]
      apply List.map_congr_left
      intro i _
      show V.int _ = V.int _
      have e6 : ((0 : Int) + (i : Int)).toNat = i := by omega
      rw [e6]
  by_cases c : r.offs = []
  · rw [decide_eq_true c]
    refine iteF ?_
    walk_at "rd"
    refine rest r.early H2 none (e1.trans e2) hl2 ?_ (by have := I.rb.el2; omega)
    unfold RV.flaps
    rw [c]
    simp
  · rw [decide_eq_false c]
    refine iteT ?_
    walk_at "rd"
    refine x_ty hl2 ?_
    walk_at "rd"
    refine fl_begin T I2 ?_
    walk_at "rd"
    refine fl_offsets T I2 ?_
    walk_at "rd"
    have hol : 0 < r.offs.length := List.length_pos_iff.mpr c
    refine x_ixT I2.o (atI_zI (by omega) (by omega)) ?_
    walk_at "rd"
    refine x_appR hl2 (by have := I.rb.el2; omega) ?_
    refine rest (r.early ++ [r.beg + r.offs.getD 0 0]) _ none ((e1.trans e2).mut hL) upd_same ?_ (by rw [List.length_append]; have := I.rb.el2; simp; omega)
    unfold RV.flaps
    have ho : r.offs.take 1 = [r.offs.getD 0 0] := by
      cases hh : r.offs with
      | nil => exact absurd hh c
      | cons b l => rfl
    rw [ho]
    rfl
end
end TkL


namespace Tk
theorem tks_ne {a : Int} {l : List Int} : tks a l ≠ [] := by cases l <;> simp [tks]
theorem tks_len : ∀ {a : Int} {l : List Int}, (tks a l).length = l.length + 1
  | _, [] => rfl
  | a, b :: l => by show (tks (a + b) l).length + 1 = _; rw [tks_len]; rfl
theorem tks_snoc : ∀ {a : Int} {l : List Int} {x : Int}, tks a (l ++ [x]) = tks a l ++ [a + l.sum + x]
  | a, [], x => by show [a, a + x] = [a, a + 0 + x]; rw [Int.add_zero]
  | a, b :: l, x => by
    show a :: tks (a + b) (l ++ [x]) = a :: (tks (a + b) l ++ [a + (b :: l).sum + x])
    rw [tks_snoc, List.sum_cons, Int.add_assoc a b]
theorem tks_split : ∀ {a : Int} {l : List Int}, tks a l = (tks a l).dropLast ++ [a + l.sum]
  | a, [] => by show [a] = [] ++ [a + 0]; simp
  | a, b :: l => by
    have h := tks_split (a := a + b) (l := l)
    have hne : tks (a + b) l ≠ [] := tks_ne
    show a :: tks (a + b) l = (a :: tks (a + b) l).dropLast ++ [a + (b :: l).sum]
    rw [List.dropLast_cons_of_ne_nil hne, List.sum_cons, ← Int.add_assoc, List.cons_append, ← h]
theorem tks_range : ∀ {a : Int} {l : List Int}, (∀ x ∈ l, 1 ≤ x) → ∀ y ∈ tks a l, a ≤ y ∧ y ≤ a + l.sum
  | a, [], _, y, hy => by
    have : y = a := by simpa [tks] using hy
    subst this; simp
  | a, b :: l, h, y, hy => by
    have hb := h b List.mem_cons_self
    have hs : 0 ≤ l.sum := by
      have hh : ∀ x ∈ l, 1 ≤ x := fun x hx => h x (List.mem_cons_of_mem _ hx)
      clear hy h
      induction l with
      | nil => simp
      | cons c l ih => rw [List.sum_cons]; have := hh c List.mem_cons_self; have := ih (fun x hx => hh x (List.mem_cons_of_mem _ hx)); omega
    rw [List.sum_cons]
    rcases List.mem_cons.mp hy with e | hy
    · subst e; omega
    · have := tks_range (fun x hx => h x (List.mem_cons_of_mem _ hx)) y hy
      omega
theorem tks_pair : ∀ {a : Int} {l : List Int}, (∀ x ∈ l, 1 ≤ x) → (tks a l).Pairwise (· < ·)
  | a, [], _ => List.pairwise_singleton _ _
  | a, b :: l, h => by
    refine List.pairwise_cons.mpr ⟨fun y hy => ?_, tks_pair fun x hx => h x (List.mem_cons_of_mem _ hx)⟩
    have := (tks_range (fun x hx => h x (List.mem_cons_of_mem _ hx)) y hy).1
    have := h b List.mem_cons_self
    omega
theorem tks_front {a : Int} {l : List Int} (h : ∀ x ∈ l, 1 ≤ x) : (tks a l).dropLast.Pairwise (· < ·) ∧ ∀ y ∈ (tks a l).dropLast, a ≤ y ∧ y < a + l.sum := by
  have p := tks_pair (a := a) h
  rw [tks_split, List.pairwise_append] at p
  refine ⟨p.1, fun y hy => ⟨(tks_range h y ((List.dropLast_sublist _).subset hy)).1, p.2.2 y hy _ (List.mem_singleton.mpr rfl)⟩⟩
theorem sum_ge {l : List Int} (h : ∀ x ∈ l, 1 ≤ x) : (l.length : Int) ≤ l.sum := by
  induction l with
  | nil => simp
  | cons c l ih => rw [List.sum_cons, List.length_cons]; have := h c List.mem_cons_self; have := ih (fun x hx => h x (List.mem_cons_of_mem _ hx)); omega
theorem plan_wf {s : Int} {fs ls : List Int} (h0 : 0 ≤ s) (hf : ∀ x ∈ fs, 1 ≤ x) (hl : ∀ x ∈ ls, 1 ≤ x) (hn : ls ≠ []) : WF (tks s fs).dropLast (s + fs.sum) ls.sum (tks 0 ls).dropLast := by
  have a := tks_front (a := s) hf
  have b := tks_front (a := 0) hl
  have g1 := sum_ge hf
  have g2 := sum_ge hl
  have g3 := List.length_pos_iff.mpr hn
  exact ⟨a.1, fun x hx => ⟨by have := (a.2 x hx).1; omega, (a.2 x hx).2⟩, by omega, by omega, b.1, fun x hx => ⟨(b.2 x hx).1, by have := (b.2 x hx).2; omega⟩⟩
end Tk
namespace TkL
open PySem PySem.Spec PySem.Calls PyProof.Rows L2 Tk
section
variable {K : PySem.W.Frag} {C : Addr} {H : Hp} {Q : VK} {σ : L2.St}
theorem range_getD {l : List Int} {k : Int → Int} : (List.range (zI l).length).map (fun i => k (l.getD i 0)) = l.map k := by
  rw [zI_len]
  apply List.ext_getElem?
  intro i
  by_cases h : i < l.length
  · rw [List.getElem?_map, List.getElem?_range h, List.getElem?_map, List.getElem?_eq_getElem h]
    simp [List.getD_eq_getElem?_getD, List.getElem?_eq_getElem h]
  · rw [List.getElem?_eq_none (by simp; omega), List.getElem?_eq_none (by simp; omega)]
theorem dcfI {J : It} {H1 : Hp} {xs : List Int} (W : Wk J H1 (zI xs)) {j : Nat} {tk tv : TE} {σ : L2.St} {Q : Addr → Hp → Prop} (f : Int → Int) (hz : xs.length ≤ 1000000)
    (hk : ∀ n H' (Qv : VK), n ∈ xs → Ex H1 H' → Qv (.int (f n)) H' → tk ((wipe σ [j]).set j (some (.int n))) H' Qv)
    (hv : ∀ n H' (Qv : VK), n ∈ xs → Ex H1 H' → Qv (.bl true) H' → tv ((wipe σ [j]).set j (some (.int n))) H' Qv)
    (hd : ∀ D H', Ex H1 H' → H1 D = none → H' D = some (.dK (mkD (xs.map f))) → Q D H') :
    ∀ D, H1 D = none → ∃ W : Nat → Nat → Hp → Prop, (∃ m, W 0 m (upd H1 D (.dK []))) ∧ ∀ i m H, W i m H →
      (J.stop i H ∧ Q D H) ∨ (J.go i H ∧ ∃ Nx : Hp → Prop, (∀ H', Nx H' → ∃ m', m' < m ∧ W (i + 1) m' H') ∧ ∀ x H', J.yld i H x H' → gName j x (wipe σ [j]) H' fun σ2 H2 => wipe σ2 [j] = wipe σ [j] ∧ tYes σ2 H2 fun b H3 =>
        if b = true then tk σ2 H3 fun y H4 => tv σ2 H4 fun z H5 => ∃ kvs k, y = kV k ∧ H5 D = some (.dK kvs) ∧ kvs.length < sizeLine ∧ Nx (upd H5 D (.dK (putK kvs k z))) else Nx H3) := by
  refine dcf W (fun i => f (xs.getD i 0)) (by rw [zI_len]; exact hz) (fun i x H' Qv hx e q => ?_) (fun i x H' Qv hx e q => ?_) (fun D H' e h1 h2 => ?_)
  · obtain ⟨n, hn, rfl⟩ := zI_get hx
    have e2 : xs.getD i 0 = n := by rw [List.getD_eq_getElem?_getD, hn]; rfl
    rw [e2] at q
    exact hk n H' Qv (List.mem_of_getElem? hn) e q
  · obtain ⟨n, hn, rfl⟩ := zI_get hx
    exact hv n H' Qv (List.mem_of_getElem? hn) e q
  · rw [range_getD] at h2
    exact hd D H' e h1 h2
theorem pt1 {x : V} : putF "early" x [] = [(("early" : Str), x)] := rfl
theorem pt2 {x y : V} : putF "begin" y [(("early" : Str), x)] = [(("early" : Str), x), ("begin", y)] := rfl
theorem pt3 {x y z : V} : putF "length" z [(("early" : Str), x), ("begin", y)] = [(("early" : Str), x), ("begin", y), ("length", z)] := rfl
theorem pt4 {x y z u : V} : putF "offsets" u [(("early" : Str), x), ("begin", y), ("length", z)] = [(("early" : Str), x), ("begin", y), ("length", z), ("offsets", u)] := rfl
theorem pt5 {x y z u v : V} : putF "marks" v [(("early" : Str), x), ("begin", y), ("length", z), ("offsets", u)] = [(("early" : Str), x), ("begin", y), ("length", z), ("offsets", u), ("marks", v)] := rfl
theorem pt6 {x y z u v w : V} : putF "parts" w [(("early" : Str), x), ("begin", y), ("length", z), ("offsets", u), ("marks", v)] = [(("early" : Str), x), ("begin", y), ("length", z), ("offsets", u), ("marks", v), ("parts", w)] := rfl
theorem upd_upd {H : Hp} {a : Addr} {o u : HO} : upd (upd H a o) a u = upd H a u := by
  funext x
  by_cases h : x = a
  · subst h; rw [upd_same, upd_same]
  · rw [upd_ne h, upd_ne h, upd_ne h]
theorem sqT_upd {p a C C' dx dx' : Addr} {fs gs : List (Str × V)} {xs : List V} (s : SqT K H p xs) (h : H a = some (.ins C dx fs)) : SqT K (upd H a (.ins C' dx' gs)) p xs := by
  have ne : ∀ {u : HO}, H p = some u → (∀ C dx fs, u ≠ .ins C dx fs) → p ≠ a := fun hp hu e => by
    subst e
    rw [hp] at h
    cases h
    exact hu _ _ _ rfl
  rcases s with (s | ⟨o, s⟩) | s
  · exact .inl (.inl (by rw [upd_ne (ne s fun _ _ _ z => by cases z)]; exact s))
  · exact .inl (.inr ⟨o, by rw [upd_ne (ne s fun _ _ _ z => by cases z)]; exact s⟩)
  · exact .inr s
end
section
variable {K : PySem.W.Frag} {C : Addr}
theorem rdRinit (T : TyF K C) (vs : List V) (H : Hp) (Q : VK) (E : XK) (h : spInit K C vs H Q E) : tRinit K { nx := fun _ H' => Q .non H', rt := Q } (start ["self", "early", "begin", "length", "offsets", "offset"] vs) H := by
  obtain ⟨a, dx, p1, p2, r, rfl, ha, s1, s2, rb, h⟩ := h
  unfold tRinit
  walk_at "rd"
  refine ⟨_, _, _, _, rfl, ha, T.cl, T.early, by show 0 < 1000; decide, ?_⟩
  walk_at "rd"
  refine ⟨_, _, _, _, rfl, upd_same, T.cl, T.begin_, by show 1 < 1000; decide, ?_⟩
  rw [upd_upd, pt1, pt2]
  walk_at "rd"
  refine ⟨_, _, _, _, rfl, upd_same, T.cl, T.length, by show 2 < 1000; decide, ?_⟩
  rw [upd_upd, pt3]
  walk_at "rd"
  refine ⟨_, _, _, _, rfl, upd_same, T.cl, T.offsets, by show 3 < 1000; decide, ?_⟩
  rw [upd_upd, pt4]
  walk_at "rd"
  refine x_dc (x_itup ?_)
  walk_at "rd"
  have s2' := sqT_upd (C' := C) (dx' := dx) (gs := [("early", V.ref p1), ("begin", V.int r.beg), ("length", V.int r.len), ("offsets", V.ref p2)]) s2 ha
  refine ⟨⟨_, s2'⟩, ?_⟩
  refine dcfI (Wk.tup s2') (fun n => n) (by have := rb.ol2; omega) (fun n H' Qv _ e q => ?_) (fun n H' Qv _ e q => ?_) (fun D H1 e1 hD hm => ?_)
  · walk_at "rd"; exact q
  · walk_at "rd"; exact q
  · walk_at "rd"
    have ha1 := e1 _ _ upd_same
    refine ⟨_, _, _, _, rfl, ha1, T.cl, T.marks, by show 4 < 1000; decide, ?_⟩
    rw [pt5]
    walk_at "rd"
    refine x_tup ?_
    walk_at "rd"
    refine ⟨by show 4 ≤ sizeLine; decide, fun p hp => ?_⟩
    have npa : a ≠ p := fun e => by subst e; rw [upd_same] at hp; cases hp
    walk_at "rd"
    refine ⟨_, _, _, _, rfl, (by rw [upd_ne npa]; exact upd_same), T.cl, T.parts, by show 5 < 1000; decide, ?_⟩
    rw [pt6]
    have hDa : D ≠ a := fun e => by subst e; rw [upd_same] at hD; cases hD
    have hDp : D ≠ p := fun e => by subst e; rw [upd_ne hDa, hm] at hp; cases hp
    have hp1 : H1 p = none := by rw [upd_ne npa.symm] at hp; exact hp
    have keep : ∀ x o, x ≠ a → H x = some o → H1 x = some o := fun x o hx ho => e1 x o (by rw [upd_ne hx]; exact ho)
    refine h _ (fun x o hx ho => ?_) ?_
    · have h1 := keep x o hx ho
      rw [upd_ne hx, upd_ne (ne_of_none h1 hp1), upd_ne hx]
      exact h1
    · have t1 : SqT K H1 p1 (zI r.early) := e1.sqT (sqT_upd s1 ha)
      have t2 : SqT K H1 p2 (zI r.offs) := e1.sqT s2'
      have lift : ∀ {q : Addr} {xs : List V}, SqT K H1 q xs → SqT K (upd (upd (upd H1 a (.ins C dx [(("early" : Str), V.ref p1), ("begin", V.int r.beg), ("length", V.int r.len), ("offsets", V.ref p2), ("marks", V.ref D)])) p (.tup [.ref p1, .int r.beg, .int r.len, .ref p2])) a (.ins C dx (rowFs p1 r.beg r.len p2 D p))) q xs := fun s =>
        sqT_upd ((Ex.new hp).sqT (sqT_upd s ha1)) (by rw [upd_ne npa]; exact upd_same)
      refine ⟨dx, p1, p2, D, p, upd_same, lift t1, lift t2, ?_, ?_, rb⟩
      · rw [upd_ne hDa, upd_ne hDp, upd_ne hDa, hm, List.map_id']
      · refine tOf ?_
        rw [upd_ne npa.symm, upd_same]
theorem mk_row {K : PySem.W.Frag} {C : Addr} {H : Hp} {Q : VK} {E : XK} {p1 p2 : Addr} {r : RV} (s1 : SqT K H p1 (zI r.early)) (s2 : SqT K H p2 (zI r.offs)) (rb : RB r) (h : ∀ x H', Ex H H' → H x = none → RowAt K C H' x r → Q (.ref x) H') :
    ∀ x dx, H x = none → H dx = none → dx ≠ x → spInit K C (V.ref x :: [.ref p1, .int r.beg, .int r.len, .ref p2]) (upd (upd H dx (.own x)) x (.ins C dx [])) (fun v H2 => v = .non ∧ Q (.ref x) H2) E := by
  intro x dx hx hdx hne
  have e0 : Ex H (upd (upd H dx (.own x)) x (.ins C dx [])) := fun y o hy => by
    rw [upd_ne (ne_of_none hy hx), upd_ne (ne_of_none hy hdx)]; exact hy
  refine ⟨x, dx, p1, p2, r, rfl, upd_same, e0.sqT s1, e0.sqT s2, rb, fun H' k R => ⟨rfl, h x H' (fun y o hy => k y o (ne_of_none hy hx) (e0 y o hy)) hx R⟩⟩
end
end TkL


namespace TkL
open PySem PySem.Spec PySem.Calls PyProof.Rows L2 Tk
section
variable {K : PySem.W.Frag} {C : Addr} {H : Hp} {Q : VK} {σ : L2.St}
theorem cut_lo {l : List Int} {k : Int} (h0 : 0 ≤ k) : cutV (zI l) (some k) none = zI (l.drop k.toNat) := by
  obtain ⟨n, rfl⟩ : ∃ n : Nat, k = n := ⟨k.toNat, by omega⟩
  unfold cutV
  rw [HT.sIx_nat, HT.sIx_none, zI_len]
  have e : (zI l).drop (min n l.length) = zI (l.drop n) := by
    unfold zI
    rw [List.map_drop]
    by_cases h : n ≤ l.length
    · rw [Nat.min_eq_left h]
    · rw [Nat.min_eq_right (by omega), List.drop_eq_nil_of_le (by simp), List.drop_eq_nil_of_le (by simp; omega)]
  rw [e, List.take_of_length_le (by rw [zI_len, List.length_drop]; omega)]
  simp
theorem cut_hi {l : List Int} {k : Int} (h0 : 0 ≤ k) : cutV (zI l) none (some k) = zI (l.take k.toNat) := by
  obtain ⟨n, rfl⟩ : ∃ n : Nat, k = n := ⟨k.toNat, by omega⟩
  unfold cutV
  rw [HT.sIx_nat, HT.sIx_none, zI_len, List.drop_zero, Nat.sub_zero]
  unfold zI
  rw [← List.map_take]
  congr 1
  rw [List.take_eq_take_iff]
  simp
theorem cut_lh {l : List Int} {j k : Int} (h0 : 0 ≤ j) (h1 : 0 ≤ k) : cutV (zI l) (some j) (some k) = zI ((l.drop j.toNat).take (k.toNat - j.toNat)) := by
  obtain ⟨m, rfl⟩ : ∃ n : Nat, j = n := ⟨j.toNat, by omega⟩
  obtain ⟨n, rfl⟩ : ∃ n : Nat, k = n := ⟨k.toNat, by omega⟩
  unfold cutV
  rw [HT.sIx_nat, HT.sIx_nat, zI_len]
  unfold zI
  rw [← List.map_drop, ← List.map_take]
  congr 1
  apply List.ext_getElem?
  intro i
  simp only [List.getElem?_take, List.getElem?_drop, Int.toNat_natCast]
  by_cases c : m ≤ l.length
  · rw [Nat.min_eq_left c]
    by_cases d : n ≤ l.length
    · rw [Nat.min_eq_left d]
    · rw [Nat.min_eq_right (by omega)]
      by_cases e : i < l.length - m
      · rw [if_pos e, if_pos (by omega)]
      · rw [if_neg e]
        split
        · rw [List.getElem?_eq_none (by omega)]
        · rfl
  · rw [Nat.min_eq_right (a := m) (by omega)]
    have e1 : l[l.length + i]? = none := List.getElem?_eq_none (by omega)
    have e2 : l[m + i]? = none := List.getElem?_eq_none (by omega)
    rw [e1, e2]
    split <;> split <;> rfl
theorem x_slL {p : Addr} {l : List Int} {lo hi : Option Int} {m : List Int} (s : SqL K H p (zI l)) (e : cutV (zI l) lo hi = zI m) (h : ∀ q H', Ex H H' → H q = none → H' q = some (.lst (zI m)) → Q (.ref q) H') : rSlL K (.ref p) lo hi H Q :=
  ⟨p, _, rfl, s, fun q hq => by rw [e]; exact h q _ (Ex.new hq) hq upd_same⟩
theorem x_cat {p q : Addr} {l m : List Int} (s : H p = some (.lst (zI l))) (t : H q = some (.lst (zI m))) (hz : l.length + m.length ≤ 1000000) (h : ∀ r H', Ex H H' → H r = none → H' r = some (.lst (zI (l ++ m))) → Q (.ref r) H') : rCat (.ref p) (.ref q) H Q :=
  ⟨p, q, _, _, rfl, rfl, s, t, by rw [zI_len, zI_len]; exact sz_of hz, x_new (by rw [zI_app]; exact h)⟩
theorem x_popR {p : Addr} {l : List Int} {x : Int} (s : H p = some (.lst (zI (l ++ [x])))) (h : Q (.int x) (upd H p (.lst (zI l)))) : rPop (.ref p) [] H Q := by
  refine ⟨p, _, .int x, rfl, rfl, s, ?_, ?_⟩
  · rw [zI_len, List.length_append, List.length_singleton, Nat.add_sub_cancel]
    unfold zI
    rw [List.map_append, List.getElem?_append_right (by simp)]
    simp
  · have e : (zI (l ++ [x])).dropLast = zI l := by unfold zI; rw [List.map_append]; simp
    rw [e]; exact h
theorem take_succ' {l : List Int} {i : Nat} {x : Int} (h : l[i]? = some x) : l.take (i + 1) = l.take i ++ [x] := take_succ_of h
end
section
variable {K : PySem.W.Frag} {C : Addr}
theorem rdPticks_of (T : TyF K C) (vs : List V) (H : Hp) (Q : VK) (E : XK) (h : spTicksOf K vs H Q E) : tPticks_of K { nx := fun _ H' => Q .non H', rt := Q } (start ["numbers", "ticks", "lap"] vs) H := by
  obtain ⟨p, ns, rfl, s, hne, hz, h⟩ := h
  obtain ⟨a, l, rfl⟩ : ∃ a l, ns = a :: l := by cases ns with
    | nil => exact absurd rfl hne
    | cons a l => exact ⟨a, l, rfl⟩
  unfold tPticks_of
  walk_at "rd"
  refine x_lst ?_
  walk_at "rd"
  refine x_ixL s (atI_zI (by omega) (by simp)) ?_
  walk_at "rd"
  refine ⟨by show 1 ≤ sizeLine; decide, ?_⟩
  (intro L hL; generalize hX : upd _ L _ = H1; have e1 := ex_of hX hL; have hl := at_of hX; clear hX)
  walk_at "rd"
  refine x_for (x_ilist ?_)
  walk_at "rd"
  refine x_slL (e1.sqL s) (cut_lo (by omega)) fun q H2 e2 hq h2 => ?_
  walk_at "rd"
  refine ⟨⟨_, lOf h2⟩, ?_⟩
  have hLq : L ≠ q := fun e => by subst e; rw [hl] at hq; cases hq
  have e12 := e1.trans e2
  let H0 : Hp := upd H q (.lst (zI l))
  have hqH : H q = none := e1.back hq
  have E0 : ∀ {H' : Hp}, Ex H H' → H' q = some (.lst (zI l)) → Ex H0 H' := fun e hh x o hx => by
    by_cases c : x = q
    · subst c; rw [show H0 x = some (.lst (zI l)) from upd_same] at hx; cases hx; exact hh
    · rw [show H0 x = H x from upd_ne c] at hx; exact e _ _ hx
  refine for_wk (H0 := H0) (Wk.list (lOf upd_same)) (fun i σ H' => ∃ u, σ = [some (.ref p), some (.ref L), u] ∧ Ex H H' ∧ H' q = some (.lst (zI l)) ∧ H' L = some (.lst (zI (tks a (l.take i))))) ⟨_, rfl, e12, h2, e2 _ _ hl⟩ (fun i σ H' ⟨_, _, e, hh, _⟩ => E0 e hh) ?_ ?_
  · rintro i x σ H3 hx ⟨u, rfl, e3, hq3, hl3⟩
    obtain ⟨n, hn, rfl⟩ := zI_get hx
    have hi := lt_of_get hn
    walk_at "rd"
    refine x_ty hl3 ?_
    walk_at "rd"
    refine x_ixL (lOf hl3) (by rw [tks_split]; exact atI_last) ?_
    walk_at "rd"
    refine x_appR hl3 (by rw [tks_len, List.length_take]; rw [List.length_cons] at hz; omega) ?_
    refine ⟨_, rfl, e3.mut hL, by rw [upd_ne hLq.symm]; exact hq3, ?_⟩
    rw [upd_same, take_succ' hn, tks_snoc]
  · rintro σ H3 ⟨u, rfl, e3, hq3, hl3⟩
    rw [zI_len, List.take_length] at hl3
    walk_at "rd"
    exact h H3 L e3 hL hl3
theorem rdProw_of_laps (T : TyF K C) (vs : List V) (H : Hp) (Q : VK) (E : XK) (h : spRowOfLaps K C vs H Q E) : tProw_of_laps K C { nx := fun _ H' => Q .non H', rt := Q } (start ["start", "first", "laps", "early", "begin", "offsets", "length"] vs) H := by
  obtain ⟨s, pf, pl, fs, ls, rfl, sf, sl, h0, hf, hl, hn, hb, hL, h⟩ := h
  have g1 := sum_ge hf
  have g2 := sum_ge hl
  unfold tProw_of_laps
  walk_at "rd"
  refine x_lst ?_
  walk_at "rd"
  refine ⟨by show 1 ≤ sizeLine; decide, ?_⟩
  (intro A hA; generalize hX : upd _ A _ = H1; have e1 := ex_of hX hA; have hA1 := at_of hX; clear hX)
  walk_at "rd"
  have sf1 : Seq K H1 pf (zI fs) := sf.imp e1.sqL e1.sqT
  refine x_listT sf1 fun B H2 e2 hB hB2 => ?_
  walk_at "rd"
  refine x_cat (l := [s]) (e2 _ _ hA1) hB2 (by simp; omega) fun D H3 e3 hD hD3 => ?_
  walk_at "rd"
  refine ⟨D, _, rfl, lOf hD3, by simp, by simp; omega, fun H4 F e4 hF hF4 => ?_⟩
  have e14 : Ex H H4 := e1.trans (e2.trans (e3.trans e4))
  have hFH : H F = none := (e1.trans (e2.trans e3)).back hF
  walk_at "rd"
  refine x_ty hF4 ?_
  have hF4' : H4 F = some (.lst (zI ((tks s fs).dropLast ++ [s + fs.sum]))) := by rw [hF4, ← tks_split]; rfl
  refine x_popR hF4' ?_
  walk_at "rd"
  have e5 : Ex H (upd H4 F (.lst (zI (tks s fs).dropLast))) := e14.mut hFH
  refine x_lst ?_
  walk_at "rd"
  refine ⟨by show 1 ≤ sizeLine; decide, ?_⟩
  (intro A2 hA2; generalize hX : upd _ A2 _ = H6; have e6 := ex_of hX hA2; have hA6 := at_of hX; clear hX)
  walk_at "rd"
  have sl6 : Seq K H6 pl (zI ls) := sl.imp (e5.trans e6).sqL (e5.trans e6).sqT
  refine x_listT sl6 fun B2 H7 e7 hB2 hB7 => ?_
  walk_at "rd"
  refine x_cat (l := [0]) (e7 _ _ hA6) hB7 (by simp; omega) fun D2 H8 e8 hD2 hD8 => ?_
  walk_at "rd"
  refine ⟨D2, _, rfl, lOf hD8, by simp, by simp; omega, fun H9 F2 e9 hF2 hF9 => ?_⟩
  have e69 := e6.trans (e7.trans (e8.trans e9))
  have hF2' : upd H4 F (.lst (zI (tks s fs).dropLast)) F2 = none := (e6.trans (e7.trans e8)).back hF2
  have hF2H : H F2 = none := e5.back hF2'
  have hFF : F ≠ F2 := fun e => by subst e; rw [upd_same] at hF2'; cases hF2'
  have hF9F := e69 _ _ (upd_same (H := H4) (a := F) (o := .lst (zI (tks s fs).dropLast)))
  walk_at "rd"
  refine x_ty hF9 ?_
  have hF9' : H9 F2 = some (.lst (zI ((tks 0 ls).dropLast ++ [0 + ls.sum]))) := by rw [hF9, ← tks_split]; rfl
  refine x_popR hF9' ?_
  walk_at "rd"
  have e10 : Ex H (upd H9 F2 (.lst (zI (tks 0 ls).dropLast))) := (e5.trans e69).mut hF2H
  have wf := plan_wf h0 hf hl hn
  refine ⟨F, F2, (tks s fs).dropLast, s + fs.sum, ls.sum, (tks 0 ls).dropLast, by rw [Int.zero_add], lOf (by rw [upd_ne hFF]; exact hF9F), .inl (lOf upd_same), wf, by omega, by omega, fun H11 a r e11 ha R hr => ?_⟩
  exact h H11 a r (e10.trans e11) (e10.back ha) R hr
theorem rdProw_of_ticks (T : TyF K C) (vs : List V) (H : Hp) (Q : VK) (E : XK) (h : spRowOfTicks K C vs H Q E) : tProw_of_ticks K C { nx := fun _ H' => Q .non H', rt := Q } (start ["ticks"] vs) H := by
  obtain ⟨p, ts, rfl, s, hne, hp, hr, h⟩ := h
  obtain ⟨l, x, rfl⟩ : ∃ l x, ts = l ++ [x] := ⟨ts.dropLast, ts.getLast hne, (List.dropLast_concat_getLast hne).symm⟩
  have hx := hr x (by simp)
  unfold tProw_of_ticks
  walk_at "rd"
  refine x_ixL s atI_last ?_
  walk_at "rd"
  intro D H1 e1 hD hD1
  walk_at "rd"
  have hall : ∀ y ∈ l ++ [x], 0 ≤ y ∧ y < x + 1 := fun y hy => by
    refine ⟨(hr y hy).1, ?_⟩
    rw [List.pairwise_append] at hp
    rcases List.mem_append.mp hy with z | z
    · have := hp.2.2 y z x (by simp); omega
    · rw [List.mem_singleton.mp z]; omega
  refine ⟨p, D, _, _, _, [], rfl, e1.sqL s, .inl (lOf hD1), ⟨hp, hall, by omega, by omega, List.Pairwise.nil, fun _ z => absurd z List.not_mem_nil⟩, by omega, by omega, fun H2 a r e2 ha R hrr => ?_⟩
  refine h H2 a r (e1.trans e2) (e1.back ha) R fun t => ?_
  rw [hrr t]
  unfold qhas
  split
  · rfl
  · rename_i c
    simp only [List.not_mem_nil, decide_false]
    exact (decide_eq_false fun z => by have := (hall t z).2; omega).symm
end
end TkL


namespace TkL
open PySem PySem.Spec PySem.Calls PyProof.Rows L2 Tk
section
variable {K : PySem.W.Frag} {C : Addr} {H : Hp} {Q : VK} {σ : L2.St}
theorem x_iseq {tl : TE} {R : It → Hp → Prop} (h : tl σ H fun x H1 => ∃ a xs, x = .ref a ∧ (SqL K H1 a xs ∨ SqT K H1 a xs) ∧ ∀ J, Wk J H1 xs → R J H1) : iSeq K tl σ H R := h
theorem Seq.ex {H H' : Hp} {p : Addr} {xs : List V} (s : Seq K H p xs) (e : Ex H H') : Seq K H' p xs := s.imp e.sqL e.sqT
theorem x_irng2 {ta : TA} {R : It → Hp → Prop} (h : ta σ H fun vs H1 => ∃ i j, vs = [.int i, .int j] ∧ (-2 ^ 62 ≤ i ∧ i < 2 ^ 62 ∧ -2 ^ 62 ≤ j ∧ j < 2 ^ 62) ∧ R (Itr i (j - i).toNat) H1) : iRng2 ta σ H R := h
theorem map_bl {l : List Int} {f : Int → Bool} : (l.map fun n => V.bl (f n)) = (l.map f).map V.bl := by rw [List.map_map]; rfl
end
section
variable {K : PySem.W.Frag} {C : Addr}
theorem rdPshortest (T : TyF K C) (vs : List V) (H : Hp) (Q : VK) (E : XK) (h : spShortest K vs H Q E) : tPshortest K { nx := fun _ H' => Q .non H', rt := Q } (start ["length", "offsets", "marks", "size", "offset"] vs) H := by
  obtain ⟨l, p, o, rfl, s, l1, l2, ow, ol, h⟩ := h
  unfold tPshortest
  walk_at "rd"
  refine x_dc (x_iseq ?_)
  walk_at "rd"
  refine ⟨p, _, rfl, s, fun J W => ?_⟩
  refine dcfI W (fun n => n) (by omega) (fun n H' Qv _ e q => ?_) (fun n H' Qv _ e q => ?_) (fun D H1 e1 hD hm => ?_)
  · walk_at "rd"; exact q
  · walk_at "rd"; exact q
  rw [List.map_id'] at hm
  walk_at "rd"
  refine x_for (x_irng2 ?_)
  walk_at "rd"
  refine ⟨_, _, rfl, by omega, ?_⟩
  refine for_wk (H0 := H1) (Wk.rng (lo := 1)) (fun i σ H' => ∃ u, σ = [some (.int l), some (.ref p), some (.ref D), u, none] ∧ Ex H1 H' ∧ ∀ m : Int, 1 ≤ m → m < 1 + (i : Int) → ¬ (l % m = 0 ∧ Closed l o m)) ⟨_, rfl, Ex.refl _, fun m a b => by omega⟩ (fun i σ H' ⟨_, _, e, _⟩ => e) ?_ ?_
  · rintro i x σ H2 hx ⟨u, rfl, e2, hmn⟩
    have hi := lt_of_get hx
    rw [rngV_length] at hi
    rw [rngV_get hi] at hx
    cases hx
    walk_at "rd"
    refine x_rI (by omega) ?_
    walk_at "rd"
    refine x_rEq rfl ?_
    walk_at "rd"
    have nope : ∀ {H' : Hp}, Ex H1 H' → ¬ (l % (1 + (i : Int)) = 0 ∧ Closed l o (1 + (i : Int))) → ∃ u, [some (V.int l), some (V.ref p), some (V.ref D), some (V.int (1 + (i : Int))), none] = [some (V.int l), some (V.ref p), some (V.ref D), u, none] ∧ Ex H1 H' ∧ ∀ m : Int, 1 ≤ m → m < 1 + ((i + 1 : Nat) : Int) → ¬ (l % m = 0 ∧ Closed l o m) := fun e hc => ⟨_, rfl, e, fun m a b => by
      by_cases c : m = 1 + (i : Int)
      · subst c; exact hc
      · exact hmn m a (by omega)⟩
    by_cases c : l % (1 + (i : Int)) = 0
    · have e : decide (V.int (l % (1 + (i : Int))) = V.int 0) = true := decide_eq_true (by rw [c])
      rw [e]
      refine iteT ?_
      walk_at "rd"
      refine x_lc (x_iseq ?_)
      walk_at "rd"
      have s2 : Seq K H2 p (zI o) := s.ex (e1.trans e2)
      refine ⟨p, _, rfl, s2, fun J2 W2 => ?_⟩
      refine lcfI W2 (fun _ => true) (fun n => .bl (decide ((n + (1 + (i : Int))) % l ∈ o))) (by omega) (fun n H' Qb _ e q => q) (fun n H' Qv _ _ e q => ?_) (fun F H3 e3 hF hl => ?_)
      · refine x_din (t := (n + (1 + (i : Int))) % l) (p := D) (o := o) (fun P z => ?_) (fun P z => ?_) (.inl (e _ _ (e2 _ _ hm))) q
        · walk_at "rd"
          exact x_rI (by omega) z
        · walk_at "rd"; exact z
      · rw [List.filter_eq_self.mpr (fun _ _ => rfl), map_bl] at hl
        walk_at "rd"
        refine ⟨F, _, rfl, lOf hl, ?_⟩
        walk_at "rd"
        have ea : (o.map fun n => decide ((n + (1 + (i : Int))) % l ∈ o)).all id = true ↔ Closed l o (1 + (i : Int)) := by
          rw [List.all_map, List.all_eq_true]
          simp only [Function.comp, id, decide_eq_true_iff]
          rfl
        cases hb : (o.map fun n => decide ((n + (1 + (i : Int))) % l ∈ o)).all id with
        | true =>
          refine iteT ?_
          walk_at "rd"
          exact h H3 _ (e1.trans (e2.trans e3)) ⟨by omega, by omega, c, ea.mp hb, fun m a b => hmn m a b⟩
        | false =>
          refine iteF ?_
          walk_at "rd"
          exact nope (e2.trans e3) fun z => by rw [ea.mpr z.2] at hb; cases hb
    · have e : decide (V.int (l % (1 + (i : Int))) = V.int 0) = false := decide_eq_false fun z => c (V.int.inj z)
      rw [e]
      refine iteF ?_
      refine iteF ?_
      walk_at "rd"
      exact nope e2 fun z => c z.1
  · rintro σ H2 ⟨u, rfl, e2, hmn⟩
    rw [rngV_length] at hmn
    walk_at "rd"
    exact h H2 l (e1.trans e2) ⟨l1, by omega, by simp, closed_all l1 ow, fun m a b => hmn m a (by omega)⟩
end
end TkL


namespace TkL
open PySem PySem.Spec PySem.Calls PyProof.Rows L2 Tk
section
variable {K : PySem.W.Frag} {C : Addr} {H : Hp} {Q : VK} {σ : L2.St}
theorem x_ikeys {td : TE} {R : It → Hp → Prop} (h : td σ H fun x H1 => ∃ d o, x = .ref d ∧ ((∃ kvs, H1 d = some (.frz o (.dK kvs)) ∧ R (Itk d o kvs) H1) ∨ ∃ kvs, H1 d = some (.frz o (.dT kvs)) ∧ R (Itkt d o kvs) H1)) : iKeys td σ H R := h
theorem x_lock {t : TS} {D : Ends} {d : Addr} {u : HO} (h1 : H d = some u) (h2 : Mut (some u)) (h : ∀ od : Obj, t { nx := fun σ' H' => H' d = some (.frz od u) ∧ D.nx σ' (upd H' d u), rt := fun v H' => H' d = some (.frz od u) ∧ D.rt v (upd H' d u), bk := fun σ' H' => H' d = some (.frz od u) ∧ D.bk σ' (upd H' d u), ct := fun σ' H' => H' d = some (.frz od u) ∧ D.ct σ' (upd H' d u) } σ (upd H d (.frz od u))) : tLock t D σ H := ⟨d, u, h1, h2, h⟩
theorem unlock {H' : Hp} {d : Addr} {u : HO} {od : Obj} (h1 : H d = some u) (e : Ex (upd H d (.frz od u)) H') : Ex H (upd H' d u) := fun x o hx => by
  by_cases c : x = d
  · subst c; rw [h1] at hx; cases hx; exact upd_same
  · rw [upd_ne c]; exact e x o (by rw [upd_ne c]; exact hx)
theorem x_sorted {p : Addr} {l : List Int} (s : SqL K H p (zI l)) (h : ∀ m q H', Ex H H' → H q = none → m.Perm l → m.Pairwise (· ≤ ·) → H' q = some (.lst (zI m)) → Q (.ref q) H') : rSortedI K [.ref p] H Q :=
  ⟨p, l, rfl, s, fun m q h1 h2 hq => h m q _ (Ex.new hq) hq h1 h2 upd_same⟩
theorem map_int {l : List Int} {f : Int → Int} : (l.map fun n => V.int (f n)) = zI (l.map f) := by unfold zI; rw [List.map_map]; rfl
theorem strict {l : List Int} (h : l.Pairwise (· ≤ ·)) (n : l.Nodup) : l.Pairwise (· < ·) := by
  induction l with
  | nil => exact List.Pairwise.nil
  | cons a l ih =>
    rw [List.pairwise_cons] at h ⊢
    rw [List.nodup_cons] at n
    refine ⟨fun b hb => ?_, ih h.2 n.2⟩
    have := h.1 b hb
    have : a ≠ b := fun e => n.1 (by rw [e]; exact hb)
    omega
end
section
variable {K : PySem.W.Frag} {C : Addr}
theorem rdPnormal (T : TyF K C) (vs : List V) (H : Hp) (Q : VK) (E : XK) (h : spNormal K C vs H Q E) : tPnormal K C { nx := fun _ H' => Q .non H', rt := Q } (start ["early", "begin", "length", "offsets", "size", "marks", "last", "back", "left", "found", "is_early", "offset", "mark"] vs) H := by
  obtain ⟨pe, po, e, b, l, o, rfl, se, so, w, hb, hl, h⟩ := h
  have b0 := w.b0
  have l1 := w.l1
  have hel : (e.length : Int) ≤ b := by have := len_of_range w.es w.er b0; omega
  have hol : (o.length : Int) ≤ l := by have := len_of_range w.os w.ow (by omega); omega
  unfold tPnormal
  walk_at "rd"
  refine ⟨po, _, rfl, so, ?_⟩
  rw [zI_len]
  walk_at "rd"
  refine x_rEq rfl ?_
  walk_at "rd"
  by_cases c : o = []
  · -- a row with a last tick
    subst c
    refine iteT ?_
    walk_at "rd"
    refine ⟨pe, _, rfl, .inl ⟨se, ?_⟩⟩
    (intro p1 hp1; generalize hX : upd _ p1 _ = H1; have e1 := ex_of hX hp1; have h1 := at_of hX; clear hX)
    walk_at "rd"
    refine x_lenL (e1.sqL se) ?_
    walk_at "rd"
    have fin : ∀ z, ((e = [] ∧ z = 0) ∨ ∃ y ∈ e, z = y + 1 ∧ ∀ x ∈ e, x ≤ y) → z ≤ b → ∀ p2 H2, Ex H1 H2 → H2 p2 = some (.tup []) → ∀ x dx, H2 x = none → H2 dx = none → dx ≠ x → spInit K C (V.ref x :: [V.ref p1, .int z, .int 1, .ref p2]) (upd (upd H2 dx (.own x)) x (.ins C dx [])) (fun v H2 => v = .non ∧ Q (.ref x) H2) E0 := fun z hz hzb p2 H2 e2 h2 => by
      have fc := finite_canon (b := z) w.es (fun x hx => (w.er x hx).1) hz
      refine mk_row (r := ⟨e, z, 1, []⟩) (tOf (e2 _ _ h1)) (tOf h2) ⟨fc.1, by show z ≤ 200000; omega, by show (1 : Int) ≤ 20000; omega⟩ fun x H3 e3 hx R => ?_
      refine h H3 x _ (e1.trans (e2.trans e3)) ((e1.trans e2).back hx) R fun t => ?_
      rw [fc.2 t]
      unfold qhas
      split
      · rfl
      · rename_i ct
        simp only [List.not_mem_nil, decide_false]
        exact decide_eq_false fun hm => by have := (w.er t hm).2; omega
    refine x_iteD (fun c => ?_) (fun c => ?_)
    · have hne : e ≠ [] := fun z => by subst z; simp at c
      obtain ⟨f, x, rfl⟩ : ∃ f x, e = f ++ [x] := ⟨e.dropLast, e.getLast hne, (List.dropLast_concat_getLast hne).symm⟩
      have hx := w.er x (by simp)
      walk_at "rd"
      refine x_ixL (e1.sqL se) atI_last ?_
      walk_at "rd"
      intro p2 H2 e2 hp2 h2
      walk_at "rd"
      refine fin (x + 1) (.inr ⟨x, by simp, rfl, fun y hy => ?_⟩) (by omega) p2 H2 e2 h2
      have hp := w.es
      rw [List.pairwise_append] at hp
      rcases List.mem_append.mp hy with z | z
      · have := hp.2.2 y z x (by simp); omega
      · rw [List.mem_singleton.mp z]; omega
    · have hne : e = [] := List.eq_nil_of_length_eq_zero (by omega)
      walk_at "rd"
      intro p2 H2 e2 hp2 h2
      walk_at "rd"
      exact fin 0 (.inl ⟨hne, rfl⟩) b0 p2 H2 e2 h2
  · have hob : decide (V.int (o.length : Int) = V.int 0) = false := decide_eq_false fun z => c (List.eq_nil_of_length_eq_zero (by have := V.int.inj z; omega))
    rw [hob]
    refine iteF ?_
    walk_at "rd"
    refine ⟨l, po, o, rfl, so, l1, hl, w.ow, by omega, fun H1 n e1 hs => ?_⟩
    have hn := hs.n1
    have hnl := hs.nl
    show gName _ _ _ _ _
    walk_at "rd"
    refine x_dc (x_iseq ?_)
    walk_at "rd"
    refine ⟨po, _, rfl, so.ex e1, fun J W => ?_⟩
    refine dcfI W (fun x => x % n) (by omega) (fun x H' Qv _ e q => ?_) (fun x H' Qv _ e q => ?_) (fun D H2 e2 hD hm => ?_)
    · walk_at "rd"; exact x_rI (by omega) q
    · walk_at "rd"; exact q
    walk_at "rd"
    refine x_tup ?_
    walk_at "rd"
    refine x_lenL ((e1.trans e2).sqL se) ?_
    walk_at "rd"
    refine ⟨by show 3 ≤ sizeLine; decide, ?_⟩
    (intro p3 hp3; generalize hX : upd _ p3 _ = H3; have e3 := ex_of hX hp3; have h3 := at_of hX; clear hX)
    refine x_gtup3 (tOf h3) ?_
    walk_at "rd"
    have e13 := e1.trans (e2.trans e3)
    refine x_while (fun m σ H' => ∃ c k u, σ = [some (.ref pe), some (.int b), some (.int l), some (.ref po), some (.int n), some (.ref D), some (.int c), some (.int (b - c)), some (.int (k : Nat)), none, u, none, none] ∧ Ex H3 H' ∧ m = c.toNat ∧ 0 ≤ c ∧ c ≤ b ∧ k ≤ e.length ∧ (∀ y ∈ e.take k, y < c) ∧ (∀ y ∈ e.drop k, c ≤ y) ∧ ∀ t, c ≤ t → t < b → decide (t ∈ e) = cyc o n (t - b))
      b.toNat ⟨b, e.length, none, by rw [Int.sub_self]; rfl, Ex.refl _, rfl, b0, Int.le_refl _, Nat.le_refl _, fun y hy => (w.er y (List.mem_of_mem_take hy)).2, fun y hy => by rw [List.drop_length] at hy; exact absurd hy List.not_mem_nil, fun t h1 h2 => by omega⟩ ?_
    rintro m σ H4 ⟨c, k, u, rfl, e4, rfl, hc0, hcb, hk, htk, hdr, same⟩
    have e14 := e13.trans e4
    have out : ∀ (u : Option V) (H5 : Hp), Ex H3 H5 → (c = 0 ∨ decide (c - 1 ∈ e) ≠ cyc o n (c - 1 - b)) →
        tSeq (tLock (tAsg (tLc (iKeys (tVar 5)) (gName 12) tYes (tOp (rI (fun _ j => 0 < j) fun i j => V.int (i % j)) (tOp (rI0 fun i j => V.int (i + j)) (tVar 12) (tVar 7)) (tVar 4)) [12]) (gName 9)))
          (tRet (tMk C (spInit K C) E0 (tCons (tCB (kTuple K) (tCons (L2.tSl (rSlL K) (tVar 0) tNoPart (tPart (tVar 8))) tNil)) (tCons (tVar 6) (tCons (tVar 4) (tCons (tCB (kTuple K) (tCons (tCB (rSortedI K) (tCons (tLc (iList K (tVar 9)) (gName 12) tYes (tCB kInt (tCons (tVar 12) tNil)) [12]) tNil)) tNil)) tNil))))))
          { nx := fun x H' => Q V.non H', rt := Q } [some (.ref pe), some (.int b), some (.int l), some (.ref po), some (.int n), some (.ref D), some (.int c), some (.int (b - c)), some (.int (k : Nat)), none, u, none, none] H5 := fun u H5 e5 stop => by
      have hm5 := e5 _ _ (e3 _ _ hm)
      walk_at "rd"
      refine x_lock hm5 trivial fun od => ?_
      walk_at "rd"
      refine x_lc (x_ikeys ?_)
      walk_at "rd"
      refine ⟨D, od, rfl, .inl ⟨_, upd_same, ?_⟩⟩
      obtain ⟨zs, z1, z2, z3, z4⟩ := mkD_keys (o.map fun x => x % n)
      have W2 : Wk (Itk D od (mkD (o.map fun x => x % n))) (upd H5 D (.frz od (.dK (mkD (o.map fun x => x % n))))) (zI zs) := by
        have z := Wk.keys (upd_same (H := H5) (a := D) (o := .frz od (.dK (mkD (o.map fun x => x % n)))))
        rw [z1] at z; exact z
      rw [List.length_map] at z4
      refine lcfI W2 (fun _ => true) (fun z => .int ((z + (b - c)) % n)) (by omega) (fun z H' Qb _ e q => q) (fun z H' Qv _ _ e q => ?_) (fun F H6 e6 hF hl6 => ?_)
      · walk_at "rd"; exact x_rI (by omega) q
      rw [List.filter_eq_self.mpr (fun _ _ => rfl), map_int] at hl6
      walk_at "rd"
      refine ⟨e6 _ _ upd_same, ?_⟩
      have e56 := unlock hm5 e6
      have hFD : F ≠ D := fun z => by subst z; rw [upd_same] at hF; cases hF
      have hl7 : (upd H6 D (.dK (mkD (o.map fun x => x % n)))) F = some (.lst (zI (zs.map fun z => (z + (b - c)) % n))) := by rw [upd_ne hFD]; exact hl6
      have hF5 : H5 F = none := by rw [upd_ne hFD] at hF; exact hF
      generalize upd H6 D (.dK (mkD (o.map fun x => x % n))) = H7 at e56 hl7
      have e17 : Ex H H7 := e13.trans (e5.trans e56)
      dsimp only
      walk_at "rd"
      refine x_slL (e17.sqL se) (cut_hi (by omega)) fun p8 H8 e8 hp8 h8 => ?_
      walk_at "rd"
      refine x_tupL h8 fun p9 H9 e9 hp9 h9 => ?_
      walk_at "rd"
      refine x_lc (x_ilist ?_)
      walk_at "rd"
      have hl9 := (e8.trans e9) _ _ hl7
      refine ⟨⟨_, lOf hl9⟩, ?_⟩
      refine lcfI (Wk.list (lOf hl9)) (fun _ => true) V.int (by rw [List.length_map]; omega) (fun z H' Qb _ e q => q) (fun z H' Qv _ _ e q => ?_) (fun G H10 e10 hG hl10 => ?_)
      · walk_at "rd"; exact q
      rw [List.filter_eq_self.mpr (fun _ _ => rfl)] at hl10
      walk_at "rd"
      refine x_sorted (lOf hl10) fun ns q11 H11 e11 hq11 perm srt h11 => ?_
      walk_at "rd"
      refine x_tupL h11 fun p12 H12 e12 hp12 h12 => ?_
      walk_at "rd"
      have hmem : ∀ y, y ∈ ns ↔ ∃ x ∈ o, (x % n + (b - c)) % n = y := fun y => by
        rw [perm.mem_iff, List.mem_map]
        constructor
        · rintro ⟨z, hz, rfl⟩
          obtain ⟨x, hx, rfl⟩ := List.mem_map.mp ((z3 z).mp hz)
          exact ⟨x, hx, rfl⟩
        · rintro ⟨x, hx, rfl⟩
          exact ⟨x % n, (z3 _).mpr (List.mem_map.mpr ⟨x, hx, rfl⟩), rfl⟩
      have hnd : ns.Nodup := by
        rw [perm.nodup_iff]
        rw [List.Nodup, List.pairwise_map]
        refine z2.imp_of_mem fun {x y} hx hy hne heq => hne ?_
        obtain ⟨x0, _, ex0⟩ := List.mem_map.mp ((z3 x).mp hx)
        obtain ⟨y0, _, ey0⟩ := List.mem_map.mp ((z3 y).mp hy)
        have hx1 : x % n = x := by rw [← ex0]; exact Int.emod_emod_of_dvd _ (Int.dvd_refl n)
        have hy1 : y % n = y := by rw [← ey0]; exact Int.emod_emod_of_dvd _ (Int.dvd_refl n)
        rw [mod_eq_iff] at heq
        have e0 : x + (b - c) - (y + (b - c)) = x - y := by omega
        rw [e0, ← mod_eq_iff, hx1, hy1] at heq
        exact heq
      have hes : (e.take k).Pairwise (· < ·) := w.es.sublist (List.take_sublist _ _)
      have nc := normal_canon (e' := e.take k) (o' := ns) w (by assumption) hs hc0 hcb same stop hes (fun x => take_lt htk hdr) (strict srt hnd) hmem
      have hk2 : ((k : Nat) : Int).toNat = k := by omega
      rw [hk2] at h9
      refine mk_row (r := ⟨e.take k, c, n, ns⟩) (tOf ((e10.trans (e11.trans e12)) _ _ h9)) (tOf h12) ⟨nc.1, by show c ≤ 200000; omega, by show n ≤ 20000; omega⟩ fun x H13 e13' hx R => ?_
      have eall := e17.trans (e8.trans (e9.trans (e10.trans (e11.trans e12))))
      exact h H13 x _ (eall.trans e13') (eall.back hx) R nc.2
    walk_at "rd"
    refine x_iteD (fun cp => ?_) (fun cp => ?_)
    · refine x_whN ?_
      have hse := e14.sqL se
      walk_at "rd"
      have step : ∀ (q : Bool), (q = true ↔ c - 1 ∈ e) → tSeq (tIfS (tTest (tOp rNe (tVar 10) (tDIn (tOp (rI (fun _ j => 0 < j) fun i j => V.int (i % j)) (tOp (rI0 fun i j => V.int (i - j)) (tUn (rU fun i => V.int (-i)) (tC (.int 1))) (tVar 7)) (tVar 4)) (tVar 5)))) tBreak tNext)
          (tAsg (tTup (tCons (tOp (rI0 fun i j => V.int (i - j)) (tVar 6) (tC (.int 1))) (tCons (tOp (rI0 fun i j => V.int (i + j)) (tVar 7) (tC (.int 1))) (tCons (tOp (rI0 fun i j => V.int (i - j)) (tVar 8) (tCB kInt (tCons (tVar 10) tNil))) tNil)))) (gTup K 3 (gCons (gName 6) (gCons (gName 7) (gCons (gName 8) gNil)))))
          { nx := fun σ' H' => ∃ m', m' < c.toNat ∧ ∃ c k u, σ' = [some (.ref pe), some (.int b), some (.int l), some (.ref po), some (.int n), some (.ref D), some (.int c), some (.int (b - c)), some (.int (k : Nat)), none, u, none, none] ∧ Ex H3 H' ∧ m' = c.toNat ∧ 0 ≤ c ∧ c ≤ b ∧ k ≤ e.length ∧ (∀ y ∈ e.take k, y < c) ∧ (∀ y ∈ e.drop k, c ≤ y) ∧ ∀ t, c ≤ t → t < b → decide (t ∈ e) = cyc o n (t - b),
            ct := fun σ' H' => ∃ m', m' < c.toNat ∧ ∃ c k u, σ' = [some (.ref pe), some (.int b), some (.int l), some (.ref po), some (.int n), some (.ref D), some (.int c), some (.int (b - c)), some (.int (k : Nat)), none, u, none, none] ∧ Ex H3 H' ∧ m' = c.toNat ∧ 0 ≤ c ∧ c ≤ b ∧ k ≤ e.length ∧ (∀ y ∈ e.take k, y < c) ∧ (∀ y ∈ e.drop k, c ≤ y) ∧ ∀ t, c ≤ t → t < b → decide (t ∈ e) = cyc o n (t - b),
            bk := tSeq (tLock (tAsg (tLc (iKeys (tVar 5)) (gName 12) tYes (tOp (rI (fun _ j => 0 < j) fun i j => V.int (i % j)) (tOp (rI0 fun i j => V.int (i + j)) (tVar 12) (tVar 7)) (tVar 4)) [12]) (gName 9)))
              (tRet (tMk C (spInit K C) E0 (tCons (tCB (kTuple K) (tCons (L2.tSl (rSlL K) (tVar 0) tNoPart (tPart (tVar 8))) tNil)) (tCons (tVar 6) (tCons (tVar 4) (tCons (tCB (kTuple K) (tCons (tCB (rSortedI K) (tCons (tLc (iList K (tVar 9)) (gName 12) tYes (tCB kInt (tCons (tVar 12) tNil)) [12]) tNil)) tNil)) tNil)))))) { nx := fun x H' => Q V.non H', rt := Q },
            rt := Q } [some (.ref pe), some (.int b), some (.int l), some (.ref po), some (.int n), some (.ref D), some (.int c), some (.int (b - c)), some (.int (k : Nat)), none, some (.bl q), none, none] H4 := fun q hq => by
        walk_at "rd"
        refine x_din (t := (-1 - (b - c)) % n) (p := D) (o := o.map fun x => x % n) (fun P z => ?_) (fun P z => ?_) (.inl (e4 _ _ (e3 _ _ hm))) ?_
        · walk_at "rd"; exact x_rI (by omega) z
        · walk_at "rd"; exact z
        have ecy : decide ((-1 - (b - c)) % n ∈ o.map fun x => x % n) = cyc o n (c - 1 - b) := by
          unfold cyc
          have : -1 - (b - c) = c - 1 - b := by omega
          rw [this]
        rw [ecy]
        refine x_rNe rfl ?_
        walk_at "rd"
        have hqd : q = decide (c - 1 ∈ e) := by rw [Bool.eq_iff_iff, hq, decide_eq_true_iff]
        by_cases ce : q = cyc o n (c - 1 - b)
        · have ed : (!decide (V.bl q = V.bl (cyc o n (c - 1 - b)))) = false := by rw [decide_eq_true (by rw [← ce])]; rfl
          rw [ed]
          refine iteF ?_
          walk_at "rd"
          refine x_tup ?_
          walk_at "rd"
          refine ⟨by show 3 ≤ sizeLine; decide, ?_⟩
          (intro p5 hp5; generalize hX : upd _ p5 _ = H5; have e5 := ex_of hX hp5; have h5 := at_of hX; clear hX)
          refine x_gtup3 (tOf h5) ?_
          have same' : ∀ t, c - 1 ≤ t → t < b → decide (t ∈ e) = cyc o n (t - b) := fun t h1 h2 => by
            by_cases ct : t = c - 1
            · subst ct; rw [← hqd, ce]
            · exact same t (by omega) h2
          have tb := take_back w.es htk hdr hk
          refine ⟨(c - 1).toNat, by omega, c - 1, if q then k - 1 else k, some (.bl q), ?_, e4.trans e5, rfl, by omega, by omega, ?_, ?_, ?_, same'⟩
          · have ek : ((k : Int) - if q = true then 1 else 0) = ((if q then k - 1 else k : Nat) : Int) := by
              cases q with
              | false => simp
              | true =>
                obtain ⟨h0, _⟩ := (last_early w.es htk hdr hk).mp (hq.mp rfl)
                simp; omega
            rw [ek]
            have e6 : b - (c - 1) = b - c + 1 := by omega
            rw [e6]
            rfl
          · split <;> omega
          · cases q with
            | true => exact (tb.1 (hq.mp rfl)).1
            | false => exact (tb.2 (fun z => by have := hq.mpr z; cases this)).1
          · cases q with
            | true => exact (tb.1 (hq.mp rfl)).2
            | false => exact (tb.2 (fun z => by have := hq.mpr z; cases this)).2
        · have ed : (!decide (V.bl q = V.bl (cyc o n (c - 1 - b)))) = true := by rw [decide_eq_false fun z => ce (V.bl.inj z)]; rfl
          rw [ed]
          refine iteT ?_
          walk_at "rd"
          exact out (some (.bl q)) H4 e4 (.inr (by rw [← hqd]; exact ce))
      by_cases ck : (0 : Int) < (k : Nat)
      · rw [decide_eq_true ck]
        refine iteT ?_
        walk_at "rd"
        have hk1 : k - 1 < e.length := by omega
        refine x_ixL hse (atI_zI (by omega) (by omega)) ?_
        walk_at "rd"
        refine x_rEq rfl ?_
        refine x_name ?_
        dsimp only
        refine step _ ?_
        have eg : e.getD ((k : Int) - 1).toNat 0 = e[k - 1] := by
          have : ((k : Int) - 1).toNat = k - 1 := by omega
          rw [this, List.getD_eq_getElem?_getD, List.getElem?_eq_getElem hk1]; rfl
        rw [decide_eq_true_iff, last_early w.es htk hdr hk, eg]
        constructor
        · intro z; exact ⟨by omega, V.int.inj z⟩
        · rintro ⟨_, z⟩; rw [z]
      · rw [decide_eq_false ck]
        refine iteF ?_
        refine x_name ?_
        dsimp only
        refine step false ?_
        rw [last_early w.es htk hdr hk]
        constructor
        · intro z; cases z
        · rintro ⟨z, _⟩; omega
    · exact out u H4 e4 (.inl (by omega))
end
end TkL


namespace TkL
open PySem PySem.Spec PySem.Calls PyProof.Rows L2 Tk
theorem digits_tl : ("0123456789" : Str).cps.toList = [48, 49, 50, 51, 52, 53, 54, 55, 56, 57] := by decide +kernel
theorem rdig_iff {c : Nat} : rdig c = true ↔ 48 ≤ c ∧ c ≤ 57 := by
  unfold rdig
  rw [digits_tl, decide_eq_true_iff]
  constructor
  · intro h
    simp only [List.mem_cons, List.not_mem_nil, or_false] at h
    omega
  · rintro ⟨h1, h2⟩
    have : c = 48 ∨ c = 49 ∨ c = 50 ∨ c = 51 ∨ c = 52 ∨ c = 53 ∨ c = 54 ∨ c = 55 ∨ c = 56 ∨ c = 57 := by omega
    simpa using this
theorem all_digits {w : Str} (h : w.cps.toList.all rdig = true) : NumText.AllDigits w.cps.toList := fun c hc => rdig_iff.mp (List.all_eq_true.mp h c hc)
theorem str_ne {w : Str} (h : 1 ≤ w.length) : w.cps.toList ≠ [] := fun e => by
  have : w.cps.toList.length = 0 := by rw [e]; rfl
  rw [Array.length_toList] at this
  have h2 : w.length = w.cps.size := rfl
  omega
theorem read_ok {w : Str} (h1 : 1 ≤ w.length) (h2 : w.length ≤ 6) (h3 : w.cps.toList.all rdig = true) : intText? w = some ((NumText.digitsVal w.cps.toList : Nat) : Int) := intText_digits (all_digits h3) (str_ne h1) (by omega)
theorem readN_nn {w : Str} {n : Int} (h : readN w = some n) : 0 ≤ n := by
  unfold readN at h
  split at h
  · rename_i c
    rw [read_ok c.1 c.2.1 c.2.2.1] at h
    cases h
    omega
  · cases h
theorem Wk.str {H : Hp} {z : Str} : Wk (Its z) H (z.cps.toList.map fun c => V.str ⟨#[c]⟩) :=
  ⟨fun H' i _ hi => (by rw [List.length_map, Array.length_toList] at hi; exact hi : i < z.cps.size), fun H' i x H'' _ hi ⟨e, c, hc, ex⟩ => ⟨e, by rw [List.getElem?_map, Array.getElem?_toList, hc, ex]; rfl⟩, fun H' i _ hi => (by rw [List.length_map, Array.length_toList] at hi; exact hi : z.cps.size ≤ i)⟩
section
variable {K : PySem.W.Frag} {C : Addr} {H : Hp} {Q : VK} {σ : L2.St}
theorem x_istr {te : TE} {R : It → Hp → Prop} (h : te σ H fun v H1 => ∃ x, v = .str x ∧ R (Its x) H1) : iStr te σ H R := h
theorem x_lenS {z : Str} (hz : z.length ≤ sizeLine) (h : Q (.int z.length) H) : kLenS [.str z] H Q := ⟨z, rfl, hz, h⟩
end
section
variable {K : PySem.W.Frag} {C : Addr}
theorem rdPread_number (T : TyF K C) (vs : List V) (H : Hp) (Q : VK) (E : XK) (h : spReadNumber vs H Q E) : tPread_number K { nx := fun _ H' => Q .non H', rt := Q } (start ["word", "digit"] vs) H := by
  obtain ⟨w, rfl, hz, h⟩ := h
  unfold tPread_number
  walk_at "rd"
  refine x_lenS hz ?_
  walk_at "rd"
  have bad : ∀ H', Ex H H' → readN w = none → Q .non H' := fun H' e hr => by
    have := h H' e
    unfold readV at this
    rw [hr] at this
    exact this
  have none_of : ¬ (1 ≤ w.length ∧ w.length ≤ 6 ∧ w.cps.toList.all rdig = true ∧ ¬ (1 < w.length ∧ w.cps.toList[0]? = some 48)) → readN w = none := fun c => by unfold readN; rw [if_neg c]
  by_cases c1 : (1 : Int) ≤ (w.length : Nat)
  · rw [decide_eq_true c1]
    refine iteT ?_
    walk_at "rd"
    by_cases c2 : ((w.length : Nat) : Int) ≤ 6
    · rw [decide_eq_true c2]
      refine iteF ?_
      walk_at "rd"
      refine x_lc (x_istr ?_)
      walk_at "rd"
      refine ⟨w, rfl, ?_⟩
      have hw6 : w.cps.toList.length ≤ 6 := by rw [Array.length_toList]; have : w.length = w.cps.size := rfl; omega
      refine lcf Wk.str (fun _ => true) (fun v => match v with | .str s => .bl (!s.cps.toList.all rdig) | v => v) (by rw [List.length_map]; omega) (fun i x H' Qb _ e q => q) (fun i x H' Qv hx _ e q => ?_) (fun D H1 e1 hD hl => ?_)
      · obtain ⟨c, hc, rfl⟩ : ∃ c, w.cps.toList[i]? = some c ∧ x = .str ⟨#[c]⟩ := by
          rw [List.getElem?_map] at hx
          cases hh : w.cps.toList[i]? with
          | none => rw [hh] at hx; cases hx
          | some c => rw [hh] at hx; exact ⟨c, rfl, (Option.some.inj hx).symm⟩
        walk_at "rd"
        refine ⟨c, _, rfl, rfl, ?_⟩
        have ec : (!decide (c ∈ ("0123456789" : Str).cps.toList)) = (!(⟨#[c]⟩ : Str).cps.toList.all rdig) := by
          show _ = (!(rdig c && true))
          rw [Bool.and_true]; rfl
        rw [ec]
        exact q
      · have hl2 : H1 D = some (.lst ((w.cps.toList.map fun c => !rdig c).map V.bl)) := by
          rw [hl, List.filter_eq_self.mpr (fun _ _ => rfl), List.map_map, List.map_map]
          congr 2
          apply List.map_congr_left
          intro c _
          show V.bl (!(rdig c && true)) = V.bl (!rdig c)
          rw [Bool.and_true]
        walk_at "rd"
        refine ⟨D, _, rfl, lOf hl2, ?_⟩
        walk_at "rd"
        by_cases c3 : w.cps.toList.all rdig = true
        · have eb : (w.cps.toList.map fun c => !rdig c).any id = false := by
            rw [List.any_map, ← Bool.not_eq_true, List.any_eq_true]
            rintro ⟨c, hc, z⟩
            have := List.all_eq_true.mp c3 c hc
            simp [this] at z
          rw [eb]
          refine iteF ?_
          walk_at "rd"
          refine x_lenS hz ?_
          walk_at "rd"
          have hr := read_ok (w := w) (by omega) (by omega) c3
          have last : ¬ (1 < w.length ∧ w.cps.toList[0]? = some 48) → ∀ H', Ex H H' → kIntS [.str w] H' Q := fun c4 H' e => by
            refine ⟨w, _, rfl, hr, by omega, ?_⟩
            have := h H' e
            unfold readV readN at this
            rw [if_pos ⟨by omega, by omega, c3, c4⟩, hr] at this
            exact this
          refine x_iteD (fun c4 => ?_) (fun c4 => ?_)
          · walk_at "rd"
            have hne := str_ne (w := w) (by omega)
            obtain ⟨d, r, hd⟩ : ∃ d r, w.cps.toList = d :: r := by
              cases hh : w.cps.toList with
              | nil => exact absurd hh hne
              | cons d r => exact ⟨d, r, rfl⟩
            refine ⟨w, 0, d, rfl, rfl, hz, by rw [hd]; simp [atI, ixN], ?_⟩
            walk_at "rd"
            refine x_rEq rfl ?_
            walk_at "rd"
            have e48 : (V.str ⟨#[d]⟩ = V.str "0") ↔ d = 48 := by
              constructor
              · intro z
                have z2 : (⟨#[d]⟩ : Str) = "0" := V.str.inj z
                have z3 : (⟨#[d]⟩ : Str).cps.toList = ("0" : Str).cps.toList := by rw [z2]
                have z4 : ("0" : Str).cps.toList = [48] := by decide +kernel
                rw [z4] at z3
                exact (List.cons.inj z3).1
              · rintro rfl
                have : (⟨#[48]⟩ : Str) = "0" := by decide +kernel
                rw [this]
            refine x_iteD (fun c5 => ?_) (fun c5 => ?_)
            · walk_at "rd"
              refine bad H1 e1 (none_of fun z => z.2.2.2 ⟨by omega, by rw [hd, e48.mp c5]; rfl⟩)
            · walk_at "rd"
              refine last (fun z => c5 (e48.mpr ?_)) H1 e1
              have := z.2
              rw [hd] at this
              exact Option.some.inj this
          · refine iteF ?_
            walk_at "rd"
            exact last (fun z => c4 (by have := z.1; omega)) H1 e1
        · have eb : (w.cps.toList.map fun c => !rdig c).any id = true := by
            rw [List.any_map, List.any_eq_true]
            have : ∃ c ∈ w.cps.toList, rdig c = false := by
              rw [Bool.not_eq_true] at c3
              have := List.all_eq_false.mp c3
              obtain ⟨c, hc, z⟩ := this
              exact ⟨c, hc, by simpa using z⟩
            obtain ⟨c, hc, z⟩ := this
            exact ⟨c, hc, by simp [z]⟩
          rw [eb]
          refine iteT ?_
          walk_at "rd"
          exact bad H1 e1 (none_of fun z => c3 z.2.2.1)
    · rw [decide_eq_false c2]
      refine iteT ?_
      refine iteT ?_
      walk_at "rd"
      exact bad H (Ex.refl H) (none_of fun z => c2 (by have := z.2.1; omega))
  · rw [decide_eq_false c1]
    refine iteF ?_
    walk_at "rd"
    refine iteT ?_
    refine iteT ?_
    walk_at "rd"
    exact bad H (Ex.refl H) (none_of fun z => c1 (by have := z.1; omega))
end
end TkL


namespace TkL
open PySem PySem.Spec PySem.Calls PyProof.Rows L2 Tk
theorem runP_snoc : ∀ (ws : List Str) (i : Nat) (w : Str) (s : PSt), runP i (ws ++ [w]) s = (runP i ws s).bind (stepP (i + ws.length) w)
  | [], i, w, s => by
    show (match stepP i w s with | none => none | some s' => some s') = _
    show _ = stepP (i + 0) w s
    rw [Nat.add_zero]
    cases stepP i w s <;> rfl
  | v :: ws, i, w, s => by
    show (match stepP i v s with | none => none | some s' => runP (i + 1) (ws ++ [w]) s') = (match stepP i v s with | none => none | some s' => runP (i + 1) ws s').bind _
    cases stepP i v s with
    | none => rfl
    | some s' =>
      dsimp only
      rw [runP_snoc ws (i + 1) w s', List.length_cons]
      congr 2
      omega
theorem runP_app : ∀ (ws vs : List Str) (i : Nat) (s : PSt), runP i (ws ++ vs) s = (runP i ws s).bind (runP (i + ws.length) vs)
  | [], vs, i, s => by show runP i vs s = runP (i + 0) vs s; rw [Nat.add_zero]
  | v :: ws, vs, i, s => by
    show (match stepP i v s with | none => none | some s' => runP (i + 1) (ws ++ vs) s') = (match stepP i v s with | none => none | some s' => runP (i + 1) ws s').bind _
    cases stepP i v s with
    | none => rfl
    | some s' =>
      dsimp only
      rw [runP_app ws vs (i + 1) s', List.length_cons]
      congr 2
      omega
structure PInv (i : Nat) (s : PSt) : Prop where
  len : s.1.length ≤ i
  ne : 0 < i → s.1 ≠ []
  nn : ∀ x ∈ s.1, 0 ≤ x
  ps : ∀ x ∈ s.1.drop 1, 1 ≤ x
  fin : s.2 = none → s.1.sum ≤ 100000
  inf : ∀ b, s.2 = some b → 1 ≤ b ∧ b ≤ s.1.length ∧ (s.1.take b).sum ≤ 100000 ∧ (s.1.drop b).sum ≤ 20000
theorem pinv0 : PInv 0 ([], none) := ⟨Nat.le_refl _, fun h => absurd h (Nat.lt_irrefl _), fun _ h => absurd h List.not_mem_nil, fun _ h => absurd h List.not_mem_nil, fun _ => by show (0 : Int) ≤ 100000; decide, fun _ h => by cases h⟩
theorem PInv.step {i : Nat} {w : Str} {s t : PSt} (h : PInv i s) (e : stepP i w s = some t) : PInv (i + 1) t := by
  obtain ⟨ns, bar⟩ := s
  unfold stepP at e
  split at e
  · rename_i c
    cases e
    have hn := h.ne c.2.2
    have hl := List.length_pos_iff.mpr hn
    have hb : bar = none := c.2.1
    exact ⟨Nat.le_succ_of_le h.len, fun _ => hn, h.nn, h.ps, fun z => (by cases z), fun b hb' => by
      cases hb'
      show 1 ≤ ns.length ∧ ns.length ≤ ns.length ∧ (ns.take ns.length).sum ≤ 100000 ∧ (ns.drop ns.length).sum ≤ 20000
      rw [List.take_length, List.drop_length]
      exact ⟨hl, Nat.le_refl _, h.fin hb, by show (0 : Int) ≤ 20000; decide⟩⟩
  · cases hr : readN w with
    | none => rw [hr] at e; cases e
    | some n =>
      rw [hr] at e
      dsimp only at e
      split at e
      · cases e
      · rename_i c
        have n0 := readN_nn hr
        have hlen := h.len
        have base : (ns ++ [n]).length ≤ i + 1 ∧ ns ++ [n] ≠ [] ∧ (∀ x ∈ ns ++ [n], 0 ≤ x) ∧ ∀ x ∈ (ns ++ [n]).drop 1, 1 ≤ x := by
          refine ⟨by rw [List.length_append]; exact Nat.succ_le_succ hlen, by simp, fun x hx => ?_, fun x hx => ?_⟩
          · rcases List.mem_append.mp hx with z | z
            · exact h.nn x z
            · rw [List.mem_singleton.mp z]; exact n0
          · by_cases hi : 0 < i
            · have hn := List.length_pos_iff.mpr (h.ne hi)
              dsimp only at hn
              rw [List.drop_append_of_le_length (by omega)] at hx
              rcases List.mem_append.mp hx with z | z
              · exact h.ps x z
              · rw [List.mem_singleton.mp z]
                have : ¬ (n = 0) := fun z => c (.inl ⟨z, hi⟩)
                omega
            · have : ns = [] := List.eq_nil_of_length_eq_zero (by dsimp only at hlen; omega)
              subst this
              simp at hx
        obtain ⟨b1, b2, b3, b4⟩ := base
        cases hb : bar with
        | none =>
          rw [hb] at e
          dsimp only at e
          split at e
          · cases e
          · rename_i c2
            cases e
            exact ⟨b1, fun _ => b2, b3, b4, fun _ => by dsimp only; omega, fun _ z => by cases z⟩
        | some b =>
          rw [hb] at e
          dsimp only at e
          split at e
          · cases e
          · rename_i c2
            cases e
            obtain ⟨i1, i2, i3, i4⟩ := h.inf b hb
            dsimp only at i2 i3
            refine ⟨b1, fun _ => b2, b3, b4, fun z => (by cases z), fun b' hb' => ?_⟩
            cases hb'
            refine ⟨i1, by rw [List.length_append]; omega, ?_, by dsimp only; omega⟩
            dsimp only
            rw [List.take_append_of_le_length i2]
            exact i3
theorem runP_inv : ∀ (ws : List Str) (i : Nat) (s t : PSt), PInv i s → runP i ws s = some t → PInv (i + ws.length) t
  | [], i, s, t, h, e => by cases e; exact h
  | w :: ws, i, s, t, h, e => by
    have e' : (match stepP i w s with | none => none | some s' => runP (i + 1) ws s') = some t := e
    cases hs : stepP i w s with
    | none => rw [hs] at e'; cases e'
    | some s' =>
      rw [hs] at e'
      have := runP_inv ws (i + 1) s' t (h.step hs) e'
      rw [List.length_cons]
      have e2 : i + (ws.length + 1) = i + 1 + ws.length := by omega
      rw [e2]; exact this
theorem runP_at {ws : List Str} {t : PSt} (h : runP 0 ws ([], none) = some t) {i : Nat} {w : Str} (hi : ws[i]? = some w) : ∃ s s', runP 0 (ws.take i) ([], none) = some s ∧ stepP i w s = some s' ∧ runP 0 (ws.take (i + 1)) ([], none) = some s' := by
  have hl := lt_of_get hi
  have e0 : ws = ws.take (i + 1) ++ ws.drop (i + 1) := (List.take_append_drop _ _).symm
  rw [e0, runP_app] at h
  cases h1 : runP 0 (ws.take (i + 1)) ([], none) with
  | none => rw [h1] at h; cases h
  | some s' =>
    have h2 := h1
    rw [take_succ_of hi, runP_snoc] at h2
    cases h3 : runP 0 (ws.take i) ([], none) with
    | none => rw [h3] at h2; cases h2
    | some s =>
      rw [h3] at h2
      have e1 : 0 + (ws.take i).length = i := by rw [List.length_take]; omega
      rw [e1] at h2
      exact ⟨s, s', rfl, h2, rfl⟩
def barV : Option Nat → V
  | none => .non
  | some b => .int b
theorem rb_never : RB ⟨[], 0, 1, []⟩ ∧ ∀ t, RV.has ⟨[], 0, 1, []⟩ t = false := by
  have fc := finite_canon (e := []) (b := 0) List.Pairwise.nil (fun _ h => absurd h List.not_mem_nil) (.inl ⟨rfl, rfl⟩)
  exact ⟨⟨fc.1, by show (0 : Int) ≤ 200000; decide, by show (1 : Int) ≤ 20000; decide⟩, fun t => by rw [fc.2 t]; rfl⟩
section
variable {K : PySem.W.Frag} {C : Addr} {H : Hp} {Q : VK}
theorem x_sum {p : Addr} {l : List Int} (s : SqL K H p (zI l)) (h : Q (.int l.sum) H) : rSum K [.ref p] H Q := ⟨p, l, rfl, s, h⟩
theorem bar_non {b : Option Nat} : decide (barV b = .non) = b.isNone := by
  cases b with
  | none => rfl
  | some b => exact decide_eq_false fun h => by cases h
theorem split_word {z : Str} {i : Nat} {w : Str} (h : (Txt.split z " ")[i]? = some w) : w.length ≤ z.length + 1 := by
  have a := PyProof.Rows.split_weight z " " (by decide)
  have b : w.length ≤ ((Txt.split z " ").map (·.length)).sum := by
    have hm : w.length ∈ (Txt.split z " ").map (·.length) := List.mem_map.mpr ⟨w, List.mem_of_getElem? h, rfl⟩
    have key : ∀ {l : List Nat} {x : Nat}, x ∈ l → x ≤ l.sum := fun {l} => by
      induction l with
      | nil => intro x h; exact absurd h List.not_mem_nil
      | cons a l ih =>
        intro x h
        rw [List.sum_cons]
        rcases List.mem_cons.mp h with e | h
        · subst e; omega
        · have := ih h; omega
    exact key hm
  omega
end
section
variable {K : PySem.W.Frag} {C : Addr}
theorem rdRparse (T : TyF K C) (vs : List V) (H : Hp) (Q : VK) (E : XK) (h : spParse K C vs H Q E) : tRparse K C { nx := fun _ H' => Q .non H', rt := Q } (start ["cls", "text", "words", "numbers", "bar", "place", "word", "number"] vs) H := by
  obtain ⟨z, S, rfl, hz, hp, h⟩ := h
  unfold tRparse
  walk_at "rd"
  refine x_rEq rfl ?_
  walk_at "rd"
  refine x_iteD (fun c => ?_) (fun c => ?_)
  · have c : z = "never" := V.str.inj c
    have hS : S = fun _ => false := by
      unfold parseSet at hp
      rw [if_pos c] at hp
      exact (Option.some.inj hp).symm
    subst hS
    walk_at "rd"
    refine x_mkV rfl ?_
    walk_at "rd"
    intro p1 H1 e1 hp1 h1
    walk_at "rd"
    intro p2 H2 e2 hp2 h2
    walk_at "rd"
    refine mk_row (r := ⟨[], 0, 1, []⟩) (tOf (e2 _ _ h1)) (tOf h2) rb_never.1 fun x H3 e3 hx R => ?_
    exact h H3 x _ (e1.trans (e2.trans e3)) ((e1.trans e2).back hx) R rb_never.2
  · have c : ¬ z = "never" := fun e => c (by rw [e])
    walk_at "rd"
    refine ⟨rfl, ?_⟩
    walk_at "rd"
    refine ⟨z, " ", rfl, rfl, by decide, by have : (100000 + 2 : Nat) ≤ sizeLine := by decide
                                            omega, ?_⟩
    (intro W hW; generalize hX : upd _ W _ = H1; have e1 := ex_of hX hW; have h1 := at_of hX; clear hX)
    walk_at "rd"
    intro L H2 e2 hL h2
    walk_at "rd"
    unfold parseSet at hp
    rw [if_neg c] at hp
    cases hrun : runP 0 (Txt.split z " ") ([], none) with
    | none => rw [hrun] at hp; cases hp
    | some r =>
    rw [hrun] at hp
    have hlen : (Txt.split z " ").length ≤ 100002 := by have := PyProof.Rows.split_le z " "; omega
    have hne : 0 < (Txt.split z " ").length := by have := PyProof.Rows.split_pos z " "; omega
    generalize hws : Txt.split z " " = ws at *
    have hWL : W ≠ L := fun e => by subst e; rw [h1] at hL; cases hL
    have hLH : H L = none := e1.back hL
    refine x_for (x_enT ?_)
    walk_at "rd"
    refine ⟨_, _, rfl, .inl ⟨lOf (e2 _ _ h1), ?_⟩⟩
    refine for_enL (lOf h1) (fun i σ H' => ∃ ns bar u v w, runP 0 (ws.take i) ([], none) = some (ns, bar) ∧ σ = [some (.ref C), some (.str z), some (.ref W), some (.ref L), some (barV bar), u, v, w] ∧ Ex H1 H' ∧ H' L = some (.lst (zI ns)))
      ⟨[], none, _, _, _, rfl, rfl, e2, h2⟩ (fun i σ H' ⟨_, _, _, _, _, _, _, e, _⟩ => e) ?_ ?_
    · rintro i x σ H3 H4 hx ⟨ns, bar, u, v, w0, hrs, rfl, e3, hl3⟩ e4
      obtain ⟨w, hw, rfl⟩ : ∃ w, ws[i]? = some w ∧ x = .str w := by
        rw [List.getElem?_map] at hx
        cases hh : ws[i]? with
        | none => rw [hh] at hx; cases hx
        | some c => rw [hh] at hx; exact ⟨c, rfl, (Option.some.inj hx).symm⟩
      have hi := lt_of_get hw
      obtain ⟨s, s', q1, q2, q3⟩ := runP_at hrun hw
      rw [hrs] at q1
      cases q1
      have inv := runP_inv _ _ _ _ pinv0 hrs
      have e34 := e3.trans e4
      have hl4 := e4 _ _ hl3
      have nlen : ns.length ≤ 100002 := by have := inv.len; rw [List.length_take] at this; dsimp only at this; omega
      have ewd : (V.str w = V.str "|") ↔ w = "|" := ⟨V.str.inj, fun e => by rw [e]⟩
      walk_at "rd"
      refine x_rEq rfl ?_
      walk_at "rd"
      have num : ¬ (w = "|" ∧ bar = none ∧ 0 < i) → tSeq (tAsg (tDef (spReadNumber) E0 (tCons (tVar 6) tNil)) (gName 7))
          (tSeq (tIfS (tOr (tTest (tOp rIsNon (tVar 7) (tC .non))) (tOr (tAnd (tTest (tOp rEq (tVar 7) (tC (.int 0)))) (tTest (tOp (rI0 fun i j => V.bl (decide (j < i))) (tVar 5) (tC (.int 0))))) (tTest (tOp (rI0 fun i j => V.bl (decide (j < i))) (tVar 7) (tC (.int 100000)))))) tNever tNext)
          (tSeq (tDrop (tBM K "list" rAppend (tVar 3) (tCons (tVar 7) tNil)))
          (tIfS (tOr (tAnd (tTest (tOp rIsNon (tVar 4) (tC .non))) (tTest (tOp (rI0 fun i j => V.bl (decide (j < i))) (tCB (rSum K) (tCons (tVar 3) tNil)) (tC (.int 100000))))) (tAnd (tTest (tOp rNotNon (tVar 4) (tC .non))) (tTest (tOp (rI0 fun i j => V.bl (decide (j < i))) (tCB (rSum K) (tCons (L2.tSl (rSlL K) (tVar 3) (tPart (tVar 4)) tNoPart) tNil)) (tC (.int 20000)))))) tNever tNext)))
          { nx := fun σ H' => ∃ ns bar u v w, runP 0 (ws.take (i + 1)) ([], none) = some (ns, bar) ∧ σ = [some (.ref C), some (.str z), some (.ref W), some (.ref L), some (barV bar), u, v, w] ∧ Ex H1 H' ∧ H' L = some (.lst (zI ns)),
            ct := fun σ H' => ∃ ns bar u v w, runP 0 (ws.take (i + 1)) ([], none) = some (ns, bar) ∧ σ = [some (.ref C), some (.str z), some (.ref W), some (.ref L), some (barV bar), u, v, w] ∧ Ex H1 H' ∧ H' L = some (.lst (zI ns)),
            bk := tSeq (tIfS (tTest (tOp rIsNon (tVar 4) (tC .non))) (tRet (tDef (spRowOfTicks K C) E0 (tCons (tDef (spTicksOf K) E0 (tCons (tVar 3) tNil)) tNil))) tNext)
              (tSeq (tIfS (tTest (tOp rEq (tVar 4) (tCB (kLen K) (tCons (tVar 3) tNil)))) tNever tNext)
              (tRet (tDef (spRowOfLaps K C) E0 (tCons (tOp (rIxL K) (tVar 3) (tC (.int 0))) (tCons (L2.tSl (rSlL K) (tVar 3) (tPart (tC (.int 1))) (tPart (tVar 4))) (tCons (L2.tSl (rSlL K) (tVar 3) (tPart (tVar 4)) tNoPart) tNil)))))) { nx := fun x H' => Q V.non H', rt := Q },
            rt := Q } [some (.ref C), some (.str z), some (.ref W), some (.ref L), some (barV bar), some (.int (i : Nat)), some (.str w), w0] H4 := fun nb => by
        unfold stepP at q2
        rw [if_neg nb] at q2
        cases hr : readN w with
        | none => rw [hr] at q2; cases q2
        | some n =>
        rw [hr] at q2
        dsimp only at q2
        split at q2
        · cases q2
        rename_i cn
        have n0 := readN_nn hr
        walk_at "rd"
        refine ⟨w, rfl, sz_of (by have := split_word (z := z) (hws ▸ hw); omega), fun H5 e5 => ?_⟩
        have hv : readV w = .int n := by unfold readV; rw [hr]
        rw [hv]
        have hl5 := e5 _ _ hl4
        have e35 := e34.trans e5
        walk_at "rd"
        have d1 : decide (V.int n = V.non) = false := decide_eq_false fun z => by cases z
        rw [d1]
        refine iteF ?_
        walk_at "rd"
        refine x_rEq rfl ?_
        walk_at "rd"
        have app : (tSeq (tDrop (tBM K "list" rAppend (tVar 3) (tCons (tVar 7) tNil)))
            (tIfS (tOr (tAnd (tTest (tOp rIsNon (tVar 4) (tC .non))) (tTest (tOp (rI0 fun i j => V.bl (decide (j < i))) (tCB (rSum K) (tCons (tVar 3) tNil)) (tC (.int 100000))))) (tAnd (tTest (tOp rNotNon (tVar 4) (tC .non))) (tTest (tOp (rI0 fun i j => V.bl (decide (j < i))) (tCB (rSum K) (tCons (L2.tSl (rSlL K) (tVar 3) (tPart (tVar 4)) tNoPart) tNil)) (tC (.int 20000)))))) tNever tNext))
            { nx := fun σ H' => ∃ ns bar u v w, runP 0 (ws.take (i + 1)) ([], none) = some (ns, bar) ∧ σ = [some (.ref C), some (.str z), some (.ref W), some (.ref L), some (barV bar), u, v, w] ∧ Ex H1 H' ∧ H' L = some (.lst (zI ns)),
              ct := fun σ H' => ∃ ns bar u v w, runP 0 (ws.take (i + 1)) ([], none) = some (ns, bar) ∧ σ = [some (.ref C), some (.str z), some (.ref W), some (.ref L), some (barV bar), u, v, w] ∧ Ex H1 H' ∧ H' L = some (.lst (zI ns)),
              bk := tSeq (tIfS (tTest (tOp rIsNon (tVar 4) (tC .non))) (tRet (tDef (spRowOfTicks K C) E0 (tCons (tDef (spTicksOf K) E0 (tCons (tVar 3) tNil)) tNil))) tNext)
                (tSeq (tIfS (tTest (tOp rEq (tVar 4) (tCB (kLen K) (tCons (tVar 3) tNil)))) tNever tNext)
                (tRet (tDef (spRowOfLaps K C) E0 (tCons (tOp (rIxL K) (tVar 3) (tC (.int 0))) (tCons (L2.tSl (rSlL K) (tVar 3) (tPart (tC (.int 1))) (tPart (tVar 4))) (tCons (L2.tSl (rSlL K) (tVar 3) (tPart (tVar 4)) tNoPart) tNil)))))) { nx := fun x H' => Q V.non H', rt := Q },
              rt := Q } [some (.ref C), some (.str z), some (.ref W), some (.ref L), some (barV bar), some (.int (i : Nat)), some (.str w), some (.int n)] H5 := by
          walk_at "rd"
          refine x_ty hl5 ?_
          walk_at "rd"
          refine x_appR hl5 (by omega) ?_
          have e36 : Ex H1 (upd H5 L (.lst (zI (ns ++ [n])))) := e35.mut hL
          have hl6 : (upd H5 L (.lst (zI (ns ++ [n])))) L = some (.lst (zI (ns ++ [n]))) := upd_same
          generalize upd H5 L (.lst (zI (ns ++ [n]))) = H6 at e36 hl6
          cases bar with
          | none =>
            dsimp only at q2
            split at q2
            · cases q2
            rename_i cs
            cases q2
            walk_at "rd"
            refine iteT ?_
            walk_at "rd"
            refine x_sum (lOf hl6) ?_
            walk_at "rd"
            rw [decide_eq_false cs]
            refine iteF ?_
            walk_at "rd"
            refine iteF ?_
            walk_at "rd"
            refine iteF ?_
            walk_at "rd"
            exact ⟨_, _, _, _, _, q3, rfl, e36, hl6⟩
          | some b =>
            dsimp only at q2
            split at q2
            · cases q2
            rename_i cs
            cases q2
            walk_at "rd"
            have d2 : decide (V.int (b : Nat) = V.non) = false := decide_eq_false fun z => by cases z
            show if decide (V.int (b : Nat) = V.non) = true then _ else _
            rw [d2]
            refine iteF ?_
            walk_at "rd"
            refine iteF ?_
            walk_at "rd"
            show if (!decide (V.int (b : Nat) = V.non)) = true then _ else _
            rw [d2]
            refine iteT ?_
            walk_at "rd"
            show ∃ k, V.int (b : Nat) = .int k ∧ _
            walk_at "rd"
            refine x_slL (lOf hl6) (cut_lo (by omega)) fun q H7 e7 hq h7 => ?_
            walk_at "rd"
            refine x_sum (lOf h7) ?_
            walk_at "rd"
            rw [Int.toNat_natCast, decide_eq_false cs]
            refine iteF ?_
            walk_at "rd"
            exact ⟨_, some b, _, _, _, q3, rfl, e36.trans e7, e7 _ _ hl6⟩
        by_cases cz : n = 0
        · subst cz
          refine iteT ?_
          walk_at "rd"
          have : ¬ ((0 : Int) < (i : Nat)) := fun z => cn (.inl ⟨rfl, by omega⟩)
          rw [decide_eq_false this]
          refine iteF ?_
          walk_at "rd"
          refine iteF ?_
          exact app
        · have d3 : decide (V.int n = V.int 0) = false := decide_eq_false fun z => cz (V.int.inj z)
          rw [d3]
          refine iteF ?_
          refine iteF ?_
          walk_at "rd"
          have : ¬ (100000 < n) := fun z => cn (.inr z)
          rw [decide_eq_false this]
          refine iteF ?_
          exact app
      refine x_iteD (fun cw => ?_) (fun cw => ?_)
      · have cw := ewd.mp cw
        walk_at "rd"
        rw [bar_non]
        cases bar with
        | some b =>
          refine iteF ?_
          refine iteF ?_
          exact num fun z => by cases z.2.1
        | none =>
          refine iteT ?_
          walk_at "rd"
          by_cases ci : (0 : Int) < (i : Nat)
          · rw [decide_eq_true ci]
            refine iteT ?_
            walk_at "rd"
            refine x_lenL (lOf hl4) ?_
            walk_at "rd"
            unfold stepP at q2
            rw [if_pos ⟨cw, rfl, by omega⟩] at q2
            cases q2
            exact ⟨_, _, _, _, _, q3, rfl, e34, hl4⟩
          · rw [decide_eq_false ci]
            refine iteF ?_
            exact num fun z => ci (by have := z.2.2; omega)
      · refine iteF ?_
        exact num fun z => cw (ewd.mpr z.1)
    · rintro σ H3 ⟨ns, bar, u, v, w, hrs, rfl, e3, hl3⟩
      rw [List.length_map, List.take_length, hrun] at hrs
      cases hrs
      have inv := runP_inv _ _ _ _ pinv0 hrun
      have hns := inv.ne (by omega)
      have e13 := e1.trans e3
      have nlen : ns.length ≤ 100002 := by have := inv.len; dsimp only at this; omega
      obtain ⟨a, l, rfl⟩ : ∃ a l, ns = a :: l := by
        cases ns with
        | nil => exact absurd rfl hns
        | cons a l => exact ⟨a, l, rfl⟩
      have ha : 0 ≤ a := inv.nn a List.mem_cons_self
      have hl : ∀ x ∈ l, 1 ≤ x := inv.ps
      walk_at "rd"
      rw [bar_non]
      cases bar with
      | none =>
        dsimp only at hp
        cases hp
        have hs := inv.fin rfl
        dsimp only at hs
        rw [List.sum_cons] at hs
        refine iteT ?_
        walk_at "rd"
        refine ⟨L, _, rfl, lOf hl3, by simp, by omega, fun H4 q e4 hq hq4 => ?_⟩
        walk_at "rd"
        refine ⟨q, ticksOf (a :: l), rfl, lOf hq4, tks_ne, tks_pair hl, fun x hx => by have := tks_range hl x hx; omega, fun H5 p r e5 hp5 R hr => ?_⟩
        exact h H5 p r (e13.trans (e4.trans e5)) ((e13.trans e4).back hp5) R hr
      | some b =>
        obtain ⟨i1, i2, i3, i4⟩ := inv.inf b rfl
        dsimp only at hp i2 i3 i4
        split at hp
        · cases hp
        rename_i cb
        cases hp
        refine iteF ?_
        walk_at "rd"
        refine x_lenL (lOf hl3) ?_
        show rEq (V.int (b : Nat)) _ _ _
        refine x_rEq rfl ?_
        walk_at "rd"
        have d4 : decide (V.int (b : Nat) = V.int ((a :: l).length : Nat)) = false := decide_eq_false fun z => cb (by have := V.int.inj z; omega)
        rw [d4]
        refine iteF ?_
        walk_at "rd"
        refine x_ixL (lOf hl3) (atI_zI (by omega) (by simp)) ?_
        walk_at "rd"
        show ∃ k, V.int (b : Nat) = .int k ∧ _
        walk_at "rd"
        refine x_slL (lOf hl3) (cut_lh (by omega) (by omega)) fun q4 H4 e4 hq4 h4 => ?_
        walk_at "rd"
        show ∃ k, V.int (b : Nat) = .int k ∧ _
        walk_at "rd"
        refine x_slL (lOf (e4 _ _ hl3)) (cut_lo (by omega)) fun q5 H5 e5 hq5 h5 => ?_
        walk_at "rd"
        have eb : ((b : Nat) : Int).toNat = b := by omega
        have eb1 : (1 : Int).toNat = 1 := rfl
        have tk : (a :: l).take b = a :: ((a :: l).drop 1).take (b - 1) := by
          obtain ⟨b', rfl⟩ : ∃ b', b = b' + 1 := ⟨b - 1, by omega⟩
          rfl
        rw [tk, List.sum_cons] at i3
        rw [eb, eb1] at h4
        rw [eb] at h5
        have hd1 : ∀ x ∈ ((a :: l).drop 1).take (b - 1), 1 ≤ x := fun x hx => hl x (List.mem_of_mem_take hx)
        have hd2 : ∀ x ∈ (a :: l).drop b, 1 ≤ x := fun x hx => by
          obtain ⟨b', rfl⟩ : ∃ b', b = b' + 1 := ⟨b - 1, by omega⟩
          exact hl x (List.mem_of_mem_drop (i := b') hx)
        refine ⟨_, q4, q5, _, _, rfl, .inl (lOf (e5 _ _ h4)), .inl (lOf h5), ha, hd1, hd2, fun z => ?_, by show a + _ ≤ 200000; omega, i4, fun H6 p r e6 hp6 R hr => ?_⟩
        · have : ((a :: l).drop b).length = 0 := by rw [z]; rfl
          rw [List.length_drop] at this
          omega
        · exact h H6 p r (e13.trans (e4.trans (e5.trans e6))) ((e13.trans (e4.trans e5)).back hp6) R hr
end
end TkL


namespace TkL
open PySem PySem.Spec PySem.Calls PyProof.Rows L2 Tk
def numS (i : Int) : Str := Str.ofString (toString i)
theorem numS_S {i : Int} (h : 0 ≤ i) : numS i = SX.S (TL.numL i.toNat) := by
  obtain ⟨n, rfl⟩ : ∃ n : Nat, i = n := ⟨i.toNat, by omega⟩
  exact SX.num_S n
theorem numS_len {i : Int} (h0 : 0 ≤ i) (h1 : i < 1000000) : 1 ≤ (numS i).length ∧ (numS i).length ≤ 6 := by
  rw [numS_S h0, SX.S_len]
  exact ⟨List.length_pos_iff.mpr (TL.numL_ne _), TL.numL_len (k := 6) (by omega) (by omega)⟩
theorem numL_head : ∀ (n : Nat), 1 ≤ n → (TL.numL n)[0]? ≠ some 48 := fun n => by
  induction n using Nat.strongRecOn with
  | ind n ih =>
    intro h1 h
    by_cases c : n < 10
    · rw [TL.numL_lt c] at h
      have := Option.some.inj h
      omega
    · rw [TL.numL_step (by omega), List.getElem?_append_left (List.length_pos_iff.mpr (TL.numL_ne _))] at h
      exact ih (n / 10) (by omega) (by omega) h
theorem readN_num {i : Int} (h0 : 0 ≤ i) (h1 : i < 1000000) : readN (numS i) = some i := by
  obtain ⟨n, rfl⟩ : ∃ n : Nat, i = n := ⟨i.toNat, by omega⟩
  have hl := numS_len h0 h1
  have e : (numS (n : Nat)).cps.toList = TL.numL n := TL.tl_num n
  have c1 : (numS (n : Nat)).cps.toList.all rdig = true := by
    rw [e, List.all_eq_true]
    intro c hc
    exact rdig_iff.mpr (TL.numL_digits n c hc)
  have c2 : ¬ (1 < (numS (n : Nat)).length ∧ (numS (n : Nat)).cps.toList[0]? = some 48) := by
    rintro ⟨a, b⟩
    rw [e] at b
    by_cases c : n = 0
    · subst c
      rw [numS_S h0, SX.S_len] at a
      rw [show ((0 : Nat) : Int).toNat = 0 from rfl, TL.numL_lt (by omega)] at a
      simp at a
    · exact numL_head n (by omega) b
  unfold readN
  rw [if_pos ⟨hl.1, hl.2, c1, c2⟩]
  exact TL.int_num (by have := TL.numL_len (n := n) (k := 6) (by omega) (by omega); omega)
theorem numS_ne_bar {i : Int} (h0 : 0 ≤ i) : numS i ≠ "|" := fun h => by
  have e : (numS i).cps.toList = TL.numL i.toNat := by rw [numS_S h0]
  have e2 : ("|" : Str).cps.toList = [124] := by decide +kernel
  rw [h, e2] at e
  exact TL.numL_free (n := i.toNat) (s := 124) (by omega) (by rw [← e]; simp)
theorem stepP_num {i : Nat} {n : Int} {ns : List Int} (h0 : 0 ≤ n) (hi : 0 < i → 1 ≤ n) (hs : (ns ++ [n]).sum ≤ 100000) (hn : n ≤ 100000) : stepP i (numS n) (ns, none) = some (ns ++ [n], none) := by
  unfold stepP
  rw [if_neg fun z => numS_ne_bar h0 z.1, readN_num h0 (by omega)]
  dsimp only
  rw [if_neg (by rintro (⟨a, b⟩ | a) <;> omega), if_neg (by omega)]
theorem stepP_num2 {i : Nat} {n : Int} {ns : List Int} {b : Nat} (h0 : 1 ≤ n) (hs : ((ns ++ [n]).drop b).sum ≤ 20000) (hn : n ≤ 100000) : stepP i (numS n) (ns, some b) = some (ns ++ [n], some b) := by
  unfold stepP
  rw [if_neg fun z => numS_ne_bar (by omega) z.1, readN_num (by omega) (by omega)]
  dsimp only
  rw [if_neg (by rintro (⟨a, b⟩ | a) <;> omega), if_neg (by omega)]
theorem sum_app (l m : List Int) : (l ++ m).sum = l.sum + m.sum := by
  induction l with
  | nil => simp
  | cons a l ih => rw [List.cons_append, List.sum_cons, List.sum_cons, ih]; omega
theorem sum_nn {l : List Int} (h : ∀ x ∈ l, 1 ≤ x) : 0 ≤ l.sum := by have := sum_ge h; omega
theorem runP_nums : ∀ (l : List Int) (i : Nat) (ns : List Int), 0 < i → (∀ x ∈ l, 1 ≤ x) → (∀ x ∈ ns, 0 ≤ x) → ns.sum + l.sum ≤ 100000 → 0 ≤ ns.sum → runP i (l.map numS) (ns, none) = some (ns ++ l, none)
  | [], i, ns, _, _, _, _, _ => by show some _ = _; rw [List.append_nil]
  | a :: l, i, ns, hi, hl, hn, hs, h0 => by
    have ha := hl a List.mem_cons_self
    have hl' : ∀ x ∈ l, 1 ≤ x := fun x hx => hl x (List.mem_cons_of_mem _ hx)
    have hs0 := sum_nn hl'
    rw [List.sum_cons] at hs
    show (match stepP i (numS a) (ns, none) with | none => none | some s' => runP (i + 1) (l.map numS) s') = _
    have e1 : (ns ++ [a]).sum = ns.sum + a := by rw [sum_app]; simp
    rw [stepP_num (by omega) (fun _ => ha) (by omega) (by omega)]
    dsimp only
    rw [runP_nums l (i + 1) (ns ++ [a]) (by omega) hl' (fun x hx => by
      rcases List.mem_append.mp hx with z | z
      · exact hn x z
      · rw [List.mem_singleton.mp z]; omega) (by omega) (by omega), List.append_assoc]
    rfl
theorem runP_nums2 : ∀ (l : List Int) (i : Nat) (ns : List Int) (b : Nat), b ≤ ns.length → (∀ x ∈ l, 1 ≤ x) → (ns.drop b).sum + l.sum ≤ 20000 → 0 ≤ (ns.drop b).sum → runP i (l.map numS) (ns, some b) = some (ns ++ l, some b)
  | [], i, ns, b, _, _, _, _ => by show some _ = _; rw [List.append_nil]
  | a :: l, i, ns, b, hb, hl, hs, h0 => by
    have ha := hl a List.mem_cons_self
    have hl' : ∀ x ∈ l, 1 ≤ x := fun x hx => hl x (List.mem_cons_of_mem _ hx)
    have hs0 := sum_nn hl'
    rw [List.sum_cons] at hs
    show (match stepP i (numS a) (ns, some b) with | none => none | some s' => runP (i + 1) (l.map numS) s') = _
    have e1 : ((ns ++ [a]).drop b).sum = (ns.drop b).sum + a := by rw [List.drop_append_of_le_length hb, sum_app]; simp
    rw [stepP_num2 (by omega) (by omega) (by omega)]
    dsimp only
    rw [runP_nums2 l (i + 1) (ns ++ [a]) b (by rw [List.length_append]; omega) hl' (by omega) (by omega), List.append_assoc]
    rfl
def planWords (s : Int) (fs ls : List Int) : List Str := (s :: fs).map numS ++ (("|" : Str) :: ls.map numS)
theorem run_plan {s : Int} {fs ls : List Int} (h0 : 0 ≤ s) (hf : ∀ x ∈ fs, 1 ≤ x) (hl : ∀ x ∈ ls, 1 ≤ x) (h1 : s + fs.sum ≤ 100000) (h2 : ls.sum ≤ 20000) :
    runP 0 (planWords s fs ls) ([], none) = some ((s :: fs) ++ ls, some (fs.length + 1)) := by
  have g1 := sum_nn hf
  have g2 := sum_nn hl
  unfold planWords
  rw [runP_app]
  have a1 : runP 0 ((s :: fs).map numS) ([], none) = some (s :: fs, none) := by
    show (match stepP 0 (numS s) ([], none) with | none => none | some s' => runP 1 (fs.map numS) s') = _
    rw [stepP_num h0 (fun z => absurd z (Nat.lt_irrefl _)) (by simp; omega) (by omega)]
    dsimp only
    rw [runP_nums fs 1 ([] ++ [s]) (by omega) hf (fun x hx => by simp at hx; omega) (by simp; omega) (by simp; omega)]
    rfl
  rw [a1]
  show runP (0 + ((s :: fs).map numS).length) (("|" : Str) :: ls.map numS) (s :: fs, none) = _
  show (match stepP (0 + ((s :: fs).map numS).length) "|" (s :: fs, none) with | none => none | some s' => runP (0 + ((s :: fs).map numS).length + 1) (ls.map numS) s') = _
  have a2 : stepP (0 + ((s :: fs).map numS).length) "|" (s :: fs, none) = some (s :: fs, some (fs.length + 1)) := by
    unfold stepP
    rw [if_pos ⟨rfl, rfl, by simp⟩]
    rfl
  rw [a2]
  dsimp only
  have hd : (s :: fs).drop (fs.length + 1) = [] := List.drop_eq_nil_of_le (by simp)
  exact runP_nums2 ls _ (s :: fs) (fs.length + 1) (by simp) hl (by rw [hd]; simp; omega) (by rw [hd]; simp)
theorem sp_S : (" " : Str) = SX.S [32] := by decide +kernel
theorem bar_S : ("|" : Str) = SX.S [124] := by decide +kernel
theorem split_join {ws : List (List Nat)} (hne : ws ≠ []) (h : ∀ p ∈ ws, 32 ∉ p) : Txt.split (Txt.join " " (ws.map SX.S)) " " = ws.map SX.S := by
  rw [sp_S, SX.join_S, SX.split_S (by simp) (by decide), SX.spl_join hne h]
def numLs (l : List Int) : List (List Nat) := l.map fun i => TL.numL i.toNat
theorem map_numS {l : List Int} (h : ∀ x ∈ l, 0 ≤ x) : l.map numS = (numLs l).map SX.S := by
  unfold numLs
  rw [List.map_map]
  apply List.map_congr_left
  intro x hx
  exact numS_S (h x hx)
theorem words_S {s : Int} {fs ls : List Int} (h0 : 0 ≤ s) (hf : ∀ x ∈ fs, 1 ≤ x) (hl : ∀ x ∈ ls, 1 ≤ x) : planWords s fs ls = (numLs (s :: fs) ++ ([124] :: numLs ls)).map SX.S := by
  unfold planWords
  rw [map_numS (l := s :: fs) (fun x hx => by
    rcases List.mem_cons.mp hx with e | e
    · omega
    · have := hf x e; omega), map_numS (l := ls) (fun x hx => by have := hl x hx; omega), List.map_append, bar_S]
  rfl
theorem free_nums {l : List Int} : ∀ p ∈ numLs l, 32 ∉ p := fun p hp => by
  obtain ⟨i, _, rfl⟩ := List.mem_map.mp hp
  exact TL.numL_free (by omega)
theorem split_plan {s : Int} {fs ls : List Int} (h0 : 0 ≤ s) (hf : ∀ x ∈ fs, 1 ≤ x) (hl : ∀ x ∈ ls, 1 ≤ x) : Txt.split (Txt.join " " (planWords s fs ls)) " " = planWords s fs ls := by
  rw [words_S h0 hf hl]
  refine split_join (by simp) fun p hp => ?_
  rcases List.mem_append.mp hp with z | z
  · exact free_nums p z
  · rcases List.mem_cons.mp z with e | e
    · subst e; decide
    · exact free_nums p e
theorem never_split : Txt.split "never" " " = [("never" : Str)] := by
  have e : ("never" : Str) = SX.S [110, 101, 118, 101, 114] := by decide +kernel
  have e2 := split_join (ws := [[110, 101, 118, 101, 114]]) (by simp) (fun p hp => by rw [List.mem_singleton.mp hp]; decide)
  have e3 : Txt.join " " ([[110, 101, 118, 101, 114]].map SX.S) = SX.S [110, 101, 118, 101, 114] := by rw [sp_S, SX.join_S]; rfl
  rw [e3] at e2
  rw [e, e2]
  rfl
theorem parse_plan {s : Int} {fs ls : List Int} (h0 : 0 ≤ s) (hf : ∀ x ∈ fs, 1 ≤ x) (hl : ∀ x ∈ ls, 1 ≤ x) (hn : ls ≠ []) (h1 : s + fs.sum ≤ 100000) (h2 : ls.sum ≤ 20000) : parseSet (Txt.join " " (planWords s fs ls)) = some (planHas s fs ls) := by
  have hnl := List.length_pos_iff.mpr hn
  unfold parseSet
  rw [if_neg, split_plan h0 hf hl, run_plan h0 hf hl h1 h2]
  · dsimp only
    rw [if_neg (by simp; omega)]
    congr 2
    · simp [List.take_append]
    · simp [List.drop_append]
  · intro z
    have a := split_plan h0 hf hl
    rw [z, never_split] at a
    have b : (planWords s fs ls).length = 1 := by rw [← a]; rfl
    unfold planWords at b
    rw [List.length_append, List.length_cons, List.length_map, List.length_map] at b
    omega
theorem wsum_le : ∀ (ws : List Str) (k : Nat), (∀ p ∈ ws, p.length ≤ k) → (ws.map (·.length)).sum ≤ ws.length * k
  | [], _, _ => by simp
  | p :: r, k, h => by
    have a := h p (by simp)
    have b := wsum_le r k (fun x hx => h x (List.mem_cons_of_mem _ hx))
    rw [List.map_cons, List.sum_cons, List.length_cons, Nat.add_mul]
    omega
end TkL


namespace TkL
open PySem PySem.Spec PySem.Calls PyProof.Rows L2 Tk
section
variable {K : PySem.W.Frag} {C : Addr} {H H' : Hp} {Q : VK} {d : Addr}
theorem Kp.refl : Kp d H H := fun _ _ _ h => h
theorem Kp.trans {H1 : Hp} (a : Kp d H H1) (b : Kp d H1 H') : Kp d H H' := fun x o hx h => b x o hx (a x o hx h)
theorem Ex.kp (e : Ex H H') : Kp d H H' := fun x o _ h => e x o h
theorem DAt.ex (D : DAt d H) (e : Ex H H') : DAt d H' := by obtain ⟨ds, h, w⟩ := D; exact ⟨ds, e _ _ h, w⟩
theorem kp_ne {p : Addr} {o : HO} (D : DAt d H) (h : H p = some o) (ho : ∀ xs, o ≠ .lst xs) : p ≠ d := fun e => by
  obtain ⟨ds, hd, _⟩ := D
  subst e
  rw [hd] at h
  cases h
  exact ho _ rfl
theorem SqT.kp {p : Addr} {xs : List V} (s : SqT K H p xs) (D : DAt d H) (k : Kp d H H') : SqT K H' p xs := by
  rcases s with (s | ⟨o, s⟩) | s
  · exact .inl (.inl (k _ _ (kp_ne D s fun _ z => by cases z) s))
  · exact .inl (.inr ⟨o, k _ _ (kp_ne D s fun _ z => by cases z) s⟩)
  · exact .inr s
theorem RowAt.kp {a : Addr} {r : RV} (R : RowAt K C H a r) (D : DAt d H) (k : Kp d H H') : RowAt K C H' a r := by
  obtain ⟨dx, p1, p2, p3, p4, I⟩ := R
  exact ⟨dx, p1, p2, p3, p4, k _ _ (kp_ne D I.ob fun _ z => by cases z) I.ob, SqT.kp I.e D k, SqT.kp I.o D k, k _ _ (kp_ne D I.m fun _ z => by cases z) I.m, SqT.kp I.p D k, I.rb⟩
theorem kp_set {o : HO} : Kp d H (upd H d o) := fun x u hx h => by rw [upd_ne hx]; exact h
end
theorem ixN_z {l : List Int} {i : Int} (h0 : 0 ≤ i) (h1 : i < l.length) : ixN (zI l).length i = some i.toNat := by
  unfold ixN
  rw [zI_len, if_pos h0, if_pos h1]
theorem pow18 : ((10 : Int) ^ (18 : Int).toNat) = 1000000000000000000 := by decide
section
variable {K : PySem.W.Frag} {C : Addr}
theorem rdLrandom (T : TyF K C) (vs : List V) (H : Hp) (Q : VK) (E : XK) (h : spRandom K vs H Q E) : tLrandom K { nx := fun _ H' => Q .non H', rt := Q } (start ["_law_script", "_law_salt", "_law_seed", "_law_cell"] vs) H := by
  obtain ⟨p, ns, salt, rfl, s, hz, h0, h1, h⟩ := h
  unfold tLrandom
  walk_at "rd"
  refine x_for (x_ilist ?_)
  walk_at "rd"
  refine ⟨⟨_, s⟩, ?_⟩
  refine for_wk (H0 := H) (Wk.list s) (fun i σ H' => ∃ sd u, σ = [some (.ref p), some (.int salt), some (.int sd), u] ∧ H' = H ∧ 0 ≤ sd ∧ sd < 2147483647) ⟨salt, _, rfl, rfl, h0, by omega⟩ (fun i σ H' ⟨_, _, _, e, _⟩ => by rw [e]; exact Ex.refl _) ?_ ?_
  · rintro i x σ H1 hx ⟨sd, u, rfl, rfl, s0, s1⟩
    obtain ⟨n, hn, rfl⟩ := zI_get hx
    walk_at "rd"
    refine x_rI (.inl (by omega)) ?_
    walk_at "rd"
    refine ⟨n, rfl, ?_⟩
    walk_at "rd"
    refine x_rI (by decide) ?_
    walk_at "rd"
    exact ⟨_, _, rfl, rfl, Int.emod_nonneg _ (by decide), Int.emod_lt_of_pos _ (by decide)⟩
  · rintro σ H1 ⟨sd, u, rfl, rfl, s0, s1⟩
    walk_at "rd"
    refine x_lst ?_
    walk_at "rd"
    refine ⟨by show 2 ≤ sizeLine; decide, ?_⟩
    (intro A hA; generalize hX : upd _ A _ = H1; have e1 := ex_of hX hA; have hA1 := at_of hX; clear hX)
    walk_at "rd"
    refine x_lc (x_ilist ?_)
    walk_at "rd"
    have s1' := e1.sqL s
    refine ⟨⟨_, s1'⟩, ?_⟩
    refine lcfI (Wk.list s1') (fun n => decide (1000000000000000000 ≤ n)) V.int (by omega) (fun n H' Qb _ e q => ?_) (fun n H' Qv _ _ e q => ?_) (fun D H2 e2 hD hl => ?_)
    · walk_at "rd"
      refine x_rI ⟨by decide, by decide, by decide⟩ ?_
      walk_at "rd"
      rw [pow18]
      exact q
    · walk_at "rd"; exact q
    · refine x_cat (l := [sd, 0]) (m := ns.filter fun n => decide (1000000000000000000 ≤ n)) (e2 _ _ hA1) hl (by have := List.length_filter_le (fun n => decide (1000000000000000000 ≤ n)) ns; simp; omega) fun r H3 e3 hr h3 => ?_
      refine h H3 r (e1.trans (e2.trans e3)) ((e1.trans e2).back hr) ⟨_, h3, by simp, fun x hx => ?_, by simpa using s1⟩
      rcases List.mem_append.mp hx with z | z
      · simp at z
        rcases z with z | z
        · subst z; exact s0
        · subst z; exact Int.le_refl _
      · have := (List.mem_filter.mp z).2
        have := of_decide_eq_true this
        omega
theorem rdLbelow (T : TyF K C) (vs : List V) (H : Hp) (Q : VK) (E : XK) (h : spBelow vs H Q E) : tLbelow K { nx := fun _ H' => Q .non H', rt := Q } (start ["_law_d", "_law_limit", "_law_result"] vs) H := by
  obtain ⟨d, n, rfl, ⟨ds, hd, wf⟩, n0, n1, h⟩ := h
  obtain ⟨a, b, l, rfl⟩ : ∃ a b l, ds = a :: b :: l := by
    have := wf.l2
    match ds, this with
    | a :: b :: l, _ => exact ⟨a, b, l, rfl⟩
  have ha := wf.nn a (by simp)
  have hb := wf.nn b (by simp)
  have hl : ∀ x ∈ l, 0 ≤ x := fun x hx => wf.nn x (by simp [hx])
  have hsm : a < 2147483647 := wf.sm
  unfold tLbelow
  walk_at "rd"
  have rest : ∀ (b : Int) (l : List Int) (H1 : Hp), 0 ≤ b → (∀ x ∈ l, 0 ≤ x) → Kp d H H1 → H1 d = some (.lst (zI (a :: b :: l))) →
      tSeq (tIfS (tTest (tOp (rI0 fun i j => V.bl (decide (j < i))) (tOp (rIxL K) (tVar 0) (tC (.int 1))) (tC (.int 0)))) (tSeq (tAsg (tOp (rI (fun _ j => 0 < j) fun i j => V.int (i % j)) (tOp (rIxL K) (tVar 0) (tC (.int 1))) (tVar 1)) (gName 2))
    (tSeq (tAsg (tOp (rI CDiv fun i j => V.int (i / j)) (tOp (rIxL K) (tVar 0) (tC (.int 1))) (tVar 1)) (gSub (tVar 0) (tC (.int 1)) rSetL))
    (tRet (tVar 2)))) tNext)
    (tSeq (tAsg (tOp (rI (fun _ j => 0 < j) fun i j => V.int (i % j)) (tOp (rI0 fun i j => V.int (i + j)) (tOp (rI CMul fun i j => V.int (i * j)) (tOp (rIxL K) (tVar 0) (tC (.int 0))) (tC (.int 48271))) (tC (.int 11))) (tC (.int 2147483647))) (gSub (tVar 0) (tC (.int 0)) rSetL))
    (tRet (tOp (rI (fun _ j => 0 < j) fun i j => V.int (i % j)) (tOp (rI CDiv fun i j => V.int (i / j)) (tOp (rIxL K) (tVar 0) (tC (.int 0))) (tC (.int 64))) (tVar 1)))) { nx := fun _ H' => Q .non H', rt := Q } [some (.ref d), some (.int n), none] H1 := fun b l H1 hb hl k h1 => by
    walk_at "rd"
    refine x_ixL (v := .int b) (lOf h1) (atI_zI (by omega) (by simp only [List.length_cons]; omega)) ?_
    walk_at "rd"
    refine x_iteD (fun c => ?_) (fun c => ?_)
    · walk_at "rd"
      refine x_ixL (v := .int b) (lOf h1) (atI_zI (by omega) (by simp only [List.length_cons]; omega)) ?_
      walk_at "rd"
      refine x_rI n0 ?_
      walk_at "rd"
      refine x_ixL (v := .int b) (lOf h1) (atI_zI (by omega) (by simp only [List.length_cons]; omega)) ?_
      walk_at "rd"
      refine x_rI ⟨n0, n1⟩ ?_
      walk_at "rd"
      refine ⟨_, rfl, d, _, _, 1, rfl, rfl, h1, ixN_z (by omega) (by simp only [List.length_cons]; omega), ?_⟩
      walk_at "rd"
      have hs : (zI (a :: b :: l)).set 1 (V.int (b / n)) = zI (a :: (b / n) :: l) := rfl
      rw [hs]
      refine h _ _ (k.trans kp_set) ⟨_, upd_same, by simp, fun x hx => ?_, hsm⟩ (Int.emod_nonneg _ (by omega)) (Int.emod_lt_of_pos _ n0)
      rcases List.mem_cons.mp hx with z | hx
      · omega
      · rcases List.mem_cons.mp hx with z | hx
        · rw [z]; exact Int.ediv_nonneg hb (by omega)
        · exact hl x hx
    · walk_at "rd"
      refine x_ixL (v := .int a) (lOf h1) (atI_zI (by omega) (by simp only [List.length_cons]; omega)) ?_
      walk_at "rd"
      refine x_rI (.inl (by omega)) ?_
      walk_at "rd"
      refine x_rI (by decide) ?_
      refine ⟨_, rfl, d, _, _, 0, rfl, rfl, h1, ixN_z (by omega) (by simp only [List.length_cons]; omega), ?_⟩
      have hs : (zI (a :: b :: l)).set 0 (V.int ((a * 48271 + 11) % 2147483647)) = zI (((a * 48271 + 11) % 2147483647) :: b :: l) := rfl
      rw [hs]
      have r0 : 0 ≤ (a * 48271 + 11) % 2147483647 := Int.emod_nonneg _ (by decide)
      have r1 : (a * 48271 + 11) % 2147483647 < 2147483647 := Int.emod_lt_of_pos _ (by decide)
      generalize (a * 48271 + 11) % 2147483647 = a' at *
      walk_at "rd"
      refine x_ixL (v := .int a') (lOf upd_same) (atI_zI (by omega) (by simp only [List.length_cons]; omega)) ?_
      walk_at "rd"
      refine x_rI ⟨by decide, by decide⟩ ?_
      walk_at "rd"
      refine x_rI n0 ?_
      refine h _ _ (k.trans kp_set) ⟨_, upd_same, by simp, fun x hx => ?_, r1⟩ (Int.emod_nonneg _ (by omega)) (Int.emod_lt_of_pos _ n0)
      rcases List.mem_cons.mp hx with z | hx
      · omega
      · rcases List.mem_cons.mp hx with z | hx
        · omega
        · exact hl x hx
  refine x_ixL (v := .int b) (lOf hd) (atI_zI (by omega) (by simp only [List.length_cons]; omega)) ?_
  walk_at "rd"
  refine x_rEq rfl ?_
  walk_at "rd"
  refine x_iteD (fun c => ?_) (fun c => ?_)
  · walk_at "rd"
    refine x_lenL (lOf hd) ?_
    walk_at "rd"
    by_cases c2 : (2 : Int) < ((a :: b :: l).length : Nat)
    · rw [decide_eq_true c2]
      refine iteT ?_
      walk_at "rd"
      obtain ⟨x, m, rfl⟩ : ∃ x m, l = x :: m := by
        cases l with
        | nil => simp at c2
        | cons x m => exact ⟨x, m, rfl⟩
      refine x_ty hd ?_
      walk_at "rd"
      refine ⟨d, _, 2, 2, .int x, rfl, rfl, hd, by decide, by decide, ?_, rfl, ?_⟩
      · rw [zI_len]
        have e := ixN_seq (n := (a :: b :: x :: m).length) (i := 2) (j := 2) (by have := @ixN_z (a :: b :: x :: m) 2 (by omega) (by simp only [List.length_cons]; omega); rw [zI_len] at this; exact this)
        exact e.1
      · have he : (zI (a :: b :: x :: m)).eraseIdx 2 = zI (a :: b :: m) := rfl
        rw [he]
        refine ⟨_, rfl, d, _, _, 1, rfl, rfl, upd_same, ixN_z (by omega) (by simp only [List.length_cons]; omega), ?_⟩
        rw [upd_upd]
        exact rest x m _ (hl x (by simp)) (fun y hy => hl y (by simp [hy])) kp_set upd_same
    · rw [decide_eq_false c2]
      refine iteF ?_
      refine x_next ?_
      exact rest b l H hb hl Kp.refl hd
  · refine iteF ?_
    refine x_next ?_
    exact rest b l H hb hl Kp.refl hd
end
end TkL


namespace TkL
open PySem PySem.Spec PySem.Calls PyProof.Rows L2 Tk
theorem DAt.upd {H : Hp} {d D : Addr} {o : HO} (D0 : DAt d H) (h : D ≠ d) : DAt d (upd H D o) := by
  obtain ⟨ds, hd, w⟩ := D0
  exact ⟨ds, by rw [upd_ne h.symm]; exact hd, w⟩
section
variable {K : PySem.W.Frag} {C : Addr} {H : Hp} {Q : VK} {d : Addr}
end
section
variable {K : PySem.W.Frag} {C : Addr}
theorem log_small {i : Int} (h0 : 0 ≤ i) (h1 : i < 1000000) : i.natAbs.log2 < 1920 := by
  have h2 : i.natAbs < 2 ^ 20 := by omega
  by_cases c : i.natAbs = 0
  · rw [c]; decide
  · have := (Nat.log2_lt c).mpr h2
    omega
end
end TkL


namespace Tk
theorem getD_mem {l : List Int} {i : Nat} (h : i < l.length) : l.getD i 0 ∈ l := by rw [List.getD_eq_getElem?_getD, List.getElem?_eq_getElem h]; exact List.getElem_mem _
theorem div_unique {u q s l : Int} (h0 : 0 ≤ s) (h1 : s < l) (e : u = q * l + s) : u / l = q ∧ u % l = s := by
  subst e
  have e1 : q * l + s = s + l * q := by rw [Int.mul_comm]; omega
  rw [e1, Int.add_mul_ediv_left _ _ (by omega), Int.add_mul_emod_self_left, Int.ediv_eq_zero_of_lt h0 h1, Int.emod_eq_of_lt h0 h1]
  exact ⟨by omega, rfl⟩
theorem tks_first {l : List Int} (h : l ≠ []) : (0 : Int) ∈ (tks 0 l).dropLast := by
  cases l with
  | nil => exact absurd rfl h
  | cons b l =>
    show (0 : Int) ∈ (0 :: tks (0 + b) l).dropLast
    rw [List.dropLast_cons_of_ne_nil tks_ne]
    exact List.mem_cons_self
end Tk


namespace Tk
structure PR (r : RV) (L : Int) : Prop where
  w : WF r.early r.beg r.len r.offs
  ho : r.offs ≠ []
  ll : r.len ≤ L
  gap : ∀ t, 0 ≤ t → r.nth (r.count t) - t ≤ 60 + r.nth 0
theorem laps_len {r : RV} : r.laps.length = r.offs.length := by
  unfold RV.laps
  rw [diffs_len, List.length_append, List.length_map, List.length_take]
  omega
end Tk
namespace TkL
open PySem PySem.Spec PySem.Calls PyProof.Rows L2 Tk
section
variable {K : PySem.W.Frag} {C : Addr} {H : Hp} {Q : VK} {E : XK} {a d : Addr} {r : RV} {t n : Int}
structure LS (K : PySem.W.Frag) (C d a : Addr) (r : RV) (H : Hp) : Prop where
  D : DAt d H
  R : RowAt K C H a r
theorem LS.ex {H' : Hp} (S : LS K C d a r H) (e : Ex H H') : LS K C d a r H' := ⟨S.D.ex e, S.R.ex e⟩
theorem LS.kp {H' : Hp} (S : LS K C d a r H) (k : Kp d H H') (D : DAt d H') : LS K C d a r H' := ⟨D, S.R.kp S.D k⟩
theorem RowAt.inst (R : RowAt K C H a r) : ∃ dx fs, H a = some (.ins C dx fs) := by
  obtain ⟨dx, p1, p2, p3, p4, I⟩ := R
  exact ⟨dx, _, I.ob⟩
theorem x_no {c A B : Prop} [Decidable c] (h : ¬ c) (b : B) : if decide c = true then A else B := by rw [decide_eq_false h]; exact iteF b
theorem x_yesD {c A B : Prop} [Decidable c] (h : c) (b : A) : if decide c = true then A else B := by rw [decide_eq_true h]; exact iteT b
end
end TkL


namespace TkL
open PySem PySem.Spec PySem.Calls PyProof.Rows L2 Tk
section
variable (K : PySem.W.Frag) (C : Addr)
def lcmI (a b : Int) : Int := a / Int.gcd a b * b
def sepN (l : List Int) : List Str := l.map fun n => (" " : Str) ++ numS n
def catS (l : List Str) : Str := l.foldl (· ++ ·) Str.empty
def rowText (r : RV) : Str := if r.early.length + r.offs.length = 0 then "never" else
  (numS (if 0 < r.early.length then r.early.getD 0 0 else r.beg + r.offs.getD 0 0) ++ catS (sepN r.flaps)) ++ (if 0 < r.offs.length then (" |" : Str) ++ catS (sepN r.laps) else Str.empty)
def spText : Sp := fun vs H Q _ => ∃ a r, vs = [.ref a] ∧ RowAt K C H a r ∧ ∀ H', Ex H H' → Q (.str (rowText r)) H'
end
end TkL



namespace TkL
open PySem PySem.Spec PySem.Calls PyProof.Rows L2 Tk
section
variable (K : PySem.W.Frag) (C : Addr)
def tRtext : TS := (tSeq (tIfS (tTest (tOp rEq (tOp (rI0 fun i j => V.int (i + j)) (tCB (kLen K) (tCons (tFld K (tVar 0) "early") tNil)) (tCB (kLen K) (tCons (tFld K (tVar 0) "offsets") tNil))) (tC (.int 0)))) (tRet (tC (.str "never"))) tNext)
    (tSeq (tAsg (tIf (tTest (tOp (rI0 fun i j => V.bl (decide (j < i))) (tCB (kLen K) (tCons (tFld K (tVar 0) "early") tNil)) (tC (.int 0)))) (tOp (rIxT K) (tFld K (tVar 0) "early") (tC (.int 0))) (tOp (rI0 fun i j => V.int (i + j)) (tFld K (tVar 0) "begin") (tOp (rIxT K) (tFld K (tVar 0) "offsets") (tC (.int 0))))) (gName 1))
    (tSeq (tAsg (tFmt (tVar 1)) (gName 2))
    (tSeq (tFor (iTup K (tPrp C (spFlaps K C) E0 (tVar 0))) (gName 3) (tAsg (tJoin [(tFmt (tVar 2)), (tC (.str " ")), (tFmt (tVar 3))]) (gName 2)))
    (tSeq (tIfS (tTest (tOp (rI0 fun i j => V.bl (decide (j < i))) (tCB (kLen K) (tCons (tFld K (tVar 0) "offsets") tNil)) (tC (.int 0)))) (tSeq (tAsg (tJoin [(tFmt (tVar 2)), (tC (.str " |"))]) (gName 2))
    (tFor (iTup K (tPrp C (spLaps K C) E0 (tVar 0))) (gName 3) (tAsg (tJoin [(tFmt (tVar 2)), (tC (.str " ")), (tFmt (tVar 3))]) (gName 2)))) tNext)
    (tRet (tVar 2)))))))
end
end TkL


namespace TkL
open PySem PySem.Spec PySem.Calls PyProof.Rows L2 Tk
section
variable {K : PySem.W.Frag} {C : Addr}
end
end TkL


namespace TkL
open PySem PySem.Spec PySem.Calls PyProof.Rows L2 Tk
section
variable {K : PySem.W.Frag} {C : Addr} {H : Hp} {Q : VK}
end
end TkL


namespace Tk
end Tk
namespace TkL
open PySem PySem.Spec PySem.Calls PyProof.Rows L2 Tk
section
variable {K : PySem.W.Frag} {C : Addr} {H : Hp} {Q : VK}
end
end TkL


namespace TkL
open PySem PySem.Spec PySem.Calls PyProof.Rows L2 Tk
section
variable {K : PySem.W.Frag} {C : Addr}
end
end TkL


namespace Tk
end Tk


namespace TkL
open PySem PySem.Spec PySem.Calls PyProof.Rows L2 Tk
theorem sA (a b c : Str) : a ++ b ++ c = a ++ (b ++ c) := TL.ext_tl (by simp only [TL.tl_append, List.append_assoc])
theorem sE (a : Str) : Str.empty ++ a = a := TL.ext_tl (by rw [TL.tl_append]; rfl)
theorem eS (a : Str) : a ++ Str.empty = a := TL.ext_tl (by rw [TL.tl_append]; show TL.tl a ++ [] = _; rw [List.append_nil])
theorem sL (a b : Str) : (a ++ b).length = a.length + b.length := by rw [TL.len_tl, TL.len_tl a, TL.len_tl b, TL.tl_append, List.length_append]
theorem catS_snoc (l : List Str) (x : Str) : catS (l ++ [x]) = catS l ++ x := by unfold catS; rw [List.foldl_append]; rfl
theorem sepN_snoc (l : List Int) (x : Int) : sepN (l ++ [x]) = sepN l ++ [(" " : Str) ++ numS x] := by unfold sepN; rw [List.map_append]; rfl
theorem fold_acc : ∀ (l : List Str) (a : Str), l.foldl (· ++ ·) a = a ++ l.foldl (· ++ ·) Str.empty
  | [], a => (eS a).symm
  | b :: l, a => by
    show l.foldl (· ++ ·) (a ++ b) = a ++ l.foldl (· ++ ·) (Str.empty ++ b)
    rw [fold_acc l (a ++ b), fold_acc l (Str.empty ++ b), sE, sA]
theorem catS_cons (a : Str) (l : List Str) : catS (a :: l) = a ++ catS l := by
  unfold catS
  show l.foldl (· ++ ·) (Str.empty ++ a) = _
  rw [fold_acc, sE]
theorem cat_len : ∀ (l : List Int), (∀ x ∈ l, 0 ≤ x ∧ x < 1000000) → (catS (sepN l)).length ≤ 7 * l.length
  | [], _ => by decide
  | x :: l, h => by
    have a := cat_len l (fun y hy => h y (by simp [hy]))
    have hx := h x (by simp)
    have b := (numS_len hx.1 hx.2).2
    show (catS (((" " : Str) ++ numS x) :: sepN l)).length ≤ _
    rw [catS_cons, sL, sL, List.length_cons]
    have : (" " : Str).length = 1 := by decide
    omega
theorem diffs_pos : ∀ {l : List Int}, l.Pairwise (· < ·) → ∀ x ∈ diffs l, 1 ≤ x
  | [], _, x, hx => absurd hx List.not_mem_nil
  | [_], _, x, hx => absurd hx List.not_mem_nil
  | a :: b :: l, h, x, hx => by
    have h1 := List.pairwise_cons.mp h
    rcases List.mem_cons.mp (show x ∈ (b - a) :: diffs (b :: l) from hx) with e | e
    · have := h1.1 b (by simp); omega
    · exact diffs_pos h1.2 x e
theorem diffs_le : ∀ {l : List Int} {m : Int}, (∀ x ∈ l, 0 ≤ x ∧ x ≤ m) → ∀ x ∈ diffs l, x ≤ m
  | [], m, _, x, hx => absurd hx List.not_mem_nil
  | [_], m, _, x, hx => absurd hx List.not_mem_nil
  | a :: b :: l, m, h, x, hx => by
    rcases List.mem_cons.mp (show x ∈ (b - a) :: diffs (b :: l) from hx) with e | e
    · have := h a (by simp); have := h b (by simp); omega
    · exact diffs_le (fun y hy => h y (List.mem_cons_of_mem _ hy)) x e
theorem big_line : (4000000 : Nat) ≤ sizeLine := by decide
theorem lap_lists {r : RV} (rb : RB r) : (∀ x ∈ r.flaps, 0 ≤ x ∧ x < 1000000) ∧ ∀ x ∈ r.laps, 0 ≤ x ∧ x < 1000000 := by
  have w := rb.c.wf
  have bb := rb.bb
  have lb := rb.lb
  have b0 := w.b0
  have l1 := w.l1
  have to : ∀ y ∈ r.offs.take 1, 0 ≤ y ∧ y < r.len := fun y hy => w.ow y (List.mem_of_mem_take hy)
  constructor
  · intro x hx
    have p : (r.early ++ (r.offs.take 1).map (r.beg + ·)).Pairwise (· < ·) := by
      rw [List.pairwise_append]
      refine ⟨w.es, ?_, fun u hu v hv => ?_⟩
      · rw [List.pairwise_map]; exact (w.os.sublist (List.take_sublist _ _)).imp fun h => by omega
      · obtain ⟨y, hy, rfl⟩ := List.mem_map.mp hv
        have := w.er u hu; have := to y hy; omega
    have a := diffs_pos p x hx
    have b := diffs_le (m := 300000) (fun y hy => by
      rcases List.mem_append.mp hy with z | z
      · have := w.er y z; omega
      · obtain ⟨v, hv, rfl⟩ := List.mem_map.mp z
        have := to v hv; omega) x hx
    omega
  · intro x hx
    have p : (r.offs ++ (r.offs.take 1).map (· + r.len)).Pairwise (· < ·) := by
      rw [List.pairwise_append]
      refine ⟨w.os, ?_, fun u hu v hv => ?_⟩
      · rw [List.pairwise_map]; exact (w.os.sublist (List.take_sublist _ _)).imp fun h => by omega
      · obtain ⟨y, hy, rfl⟩ := List.mem_map.mp hv
        have := w.ow u hu; have := to y hy; omega
    have a := diffs_pos p x hx
    have b := diffs_le (m := 300000) (fun y hy => by
      rcases List.mem_append.mp hy with z | z
      · have := w.ow y z; omega
      · obtain ⟨v, hv, rfl⟩ := List.mem_map.mp z
        have := to v hv; omega) x hx
    omega
section
variable {K : PySem.W.Frag} {C : Addr} {H : Hp} {Q : VK} {σ : L2.St}
theorem x_fmt {te : TE} (h : te σ H fun x H1 => (∃ y : Str, x = .str y ∧ y.length ≤ sizeLine ∧ Q (.str y) H1) ∨ ∃ i : Int, x = .int i ∧ i.natAbs.log2 < 1920 ∧ Q (.str (toString i)) H1) : tFmt te σ H Q := h
theorem x_join3 {a b c : TE} (h : a σ H fun x H1 => ∃ y : Str, x = .str y ∧ (Str.empty ++ y).length ≤ sizeLine ∧ b σ H1 fun x H2 => ∃ z : Str, x = .str z ∧ (Str.empty ++ y ++ z).length ≤ sizeLine ∧ c σ H2 fun x H3 => ∃ w : Str, x = .str w ∧ (Str.empty ++ y ++ z ++ w).length ≤ sizeLine ∧ Q (.str (Str.empty ++ y ++ z ++ w)) H3) : tJoin [a, b, c] σ H Q := h
theorem x_join2 {a b : TE} (h : a σ H fun x H1 => ∃ y : Str, x = .str y ∧ (Str.empty ++ y).length ≤ sizeLine ∧ b σ H1 fun x H2 => ∃ z : Str, x = .str z ∧ (Str.empty ++ y ++ z).length ≤ sizeLine ∧ Q (.str (Str.empty ++ y ++ z)) H2) : tJoin [a, b] σ H Q := h
theorem x_lapJ {i j : Nat} {z : Str} {n : Int} (e1 : σ[i]? = some (some (.str z))) (e2 : σ[j]? = some (some (.int n))) (hz : z.length ≤ 3000000) (h0 : 0 ≤ n) (h1 : n < 1000000) (h : Q (.str (z ++ ((" " : Str) ++ numS n))) H) : tJoin [tFmt (tVar i), tC (.str " "), tFmt (tVar j)] σ H Q := by
  have bg := big_line
  have nl := (numS_len h0 h1).2
  have s1 : (" " : Str).length = 1 := by decide
  refine x_join3 (x_fmt (x_var e1 (.inl ⟨z, rfl, by omega, z, rfl, by rw [sE]; omega, ?_⟩)))
  refine ⟨" ", rfl, by rw [sE, sL]; omega, x_fmt (x_var e2 (.inr ⟨n, rfl, log_small h0 h1, numS n, rfl, by rw [sE, sL, sL]; omega, ?_⟩))⟩
  rw [sE, sA]
  exact h
theorem rdRtext (T : TyF K C) (vs : List V) (H : Hp) (Q : VK) (E : XK) (h : spText K C vs H Q E) : tRtext K C { nx := fun _ H' => Q .non H', rt := Q } (start ["self", "start", "text", "lap"] vs) H := by
  obtain ⟨a, r, rfl, ⟨dx, p1, p2, p3, p4, I⟩, h⟩ := h
  have ll := lap_lists I.rb
  have el := I.rb.el2
  have ol := I.rb.ol2
  have bb := I.rb.bb
  have b0 := I.rb.c.wf.b0
  have lb := I.rb.lb
  have fl : r.flaps.length ≤ 200001 := by
    unfold RV.flaps
    rw [diffs_len, List.length_append, List.length_map, List.length_take]; omega
  have pl := laps_len (r := r)
  have bg := big_line
  unfold tRtext
  walk_at "rd"
  refine fl_early T I ?_
  walk_at "rd"
  refine x_lenT I.e ?_
  walk_at "rd"
  refine fl_offsets T I ?_
  walk_at "rd"
  refine x_lenT I.o ?_
  walk_at "rd"
  refine x_rEq rfl ?_
  walk_at "rd"
  by_cases c : r.early.length + r.offs.length = 0
  · refine x_yesD (by congr 1; omega) ?_
    walk_at "rd"
    have := h H (Ex.refl H)
    unfold rowText at this
    rw [if_pos c] at this
    exact this
  · refine x_no (fun z => c (by have := V.int.inj z; omega)) ?_
    walk_at "rd"
    refine fl_early T I ?_
    walk_at "rd"
    refine x_lenT I.e ?_
    walk_at "rd"
    refine (fun (key : ∀ st : Int, st = (if 0 < r.early.length then r.early.getD 0 0 else r.beg + r.offs.getD 0 0) → gName 1 (V.int st) ?σ H ?N) => ?use) ?keyp
    case use =>
      refine x_iteD (fun c1 => ?_) (fun c1 => ?_)
      · walk_at "rd"
        refine fl_early T I ?_
        walk_at "rd"
        refine x_ixT I.e (atI_zI (by omega) (by omega)) ?_
        exact key _ (by rw [if_pos (by omega)]; first | done | rfl)
      · walk_at "rd"
        refine fl_begin T I ?_
        walk_at "rd"
        refine fl_offsets T I ?_
        walk_at "rd"
        refine x_ixT I.o (atI_zI (by omega) (by omega)) ?_
        refine x_rI0 ?_
        exact key _ (by rw [if_neg (by omega)]; first | done | rfl)
    intro st hst
    have st0 : 0 ≤ st ∧ st < 1000000 := by
      rw [hst]
      split
      · rename_i c1
        have := I.rb.c.wf.er _ (Tk.getD_mem c1); omega
      · rename_i c1
        have := I.rb.c.wf.ow _ (Tk.getD_mem (i := 0) (show 0 < r.offs.length by omega)); omega
    have sl := (numS_len st0.1 st0.2).2
    walk_at "rd"
    refine x_fmt ?_
    walk_at "rd"
    refine .inr ⟨st, rfl, log_small st0.1 st0.2, ?_⟩
    refine x_name ?_
    dsimp only
    refine x_for (x_itup ?_)
    walk_at "rd"
    refine ⟨_, _, _, rfl, I.ob, a, r, rfl, ⟨dx, p1, p2, p3, p4, I⟩, fun H1 q1 e1 h1 => ?_⟩
    walk_at "rd"
    refine ⟨⟨_, tOf h1⟩, ?_⟩
    refine for_wk (H0 := H1) (Wk.tup (tOf h1)) (fun i σ H' => ∃ u, σ = [some (.ref a), some (.int st), some (.str (numS st ++ catS (sepN (r.flaps.take i)))), u] ∧ Ex H1 H') ⟨_, by rw [List.take_zero]; show _ = [_, _, some (V.str (numS st ++ Str.empty)), _]; rw [eS]; rfl, Ex.refl _⟩ (fun i σ H' ⟨_, _, e⟩ => e) ?_ ?_
    · rintro i x σ H2 hx ⟨u, rfl, e2⟩
      obtain ⟨n, hn, rfl⟩ := zI_get hx
      have hr := ll.1 n (List.mem_of_getElem? hn)
      have cl := cat_len (r.flaps.take i) fun x hx => ll.1 x (List.mem_of_mem_take hx)
      rw [List.length_take] at cl
      walk_at "rd"
      refine x_lapJ rfl rfl (by rw [sL]; omega) hr.1 hr.2 ?_
      walk_at "rd"
      refine ⟨some (.int n), ?_, e2⟩
      rw [take_succ' hn, sepN_snoc, catS_snoc]
      simp only [sA]
      rfl
    · rintro σ H2 ⟨u, rfl, e2⟩
      rw [zI_len, List.take_length]
      have e12 := e1.trans e2
      have I2 := I.ex e12
      have cl1 := cat_len r.flaps ll.1
      walk_at "rd"
      refine fl_offsets T I2 ?_
      walk_at "rd"
      refine x_lenT I2.o ?_
      walk_at "rd"
      refine x_iteD (fun c2 => ?_) (fun c2 => ?_)
      · walk_at "rd"
        have s2 : (" |" : Str).length = 2 := by decide
        refine x_join2 (x_fmt (x_var rfl (.inl ⟨_, rfl, by rw [sL]; omega, _, rfl, by rw [sE, sL]; omega, ?_⟩)))
        refine ⟨" |", rfl, by rw [sE, sL, sL]; omega, ?_⟩
        rw [sE]
        refine x_name ?_
        dsimp only
        refine x_for (x_itup ?_)
        walk_at "rd"
        refine ⟨_, _, _, rfl, I2.ob, a, r, rfl, ⟨dx, p1, p2, p3, p4, I2⟩, fun H3 q3 e3 h3 => ?_⟩
        walk_at "rd"
        refine ⟨⟨_, tOf h3⟩, ?_⟩
        refine for_wk (H0 := H3) (Wk.tup (tOf h3)) (fun i σ H' => ∃ u, σ = [some (.ref a), some (.int st), some (.str (numS st ++ catS (sepN r.flaps) ++ ((" |" : Str) ++ catS (sepN (r.laps.take i))))), u] ∧ Ex H3 H') ⟨_, by rw [List.take_zero]; show _ = [_, _, some (V.str (numS st ++ catS (sepN r.flaps) ++ ((" |" : Str) ++ Str.empty))), _]; rw [eS]; rfl, Ex.refl _⟩ (fun i σ H' ⟨_, _, e⟩ => e) ?_ ?_
        · rintro i x σ H4 hx ⟨u, rfl, e4⟩
          obtain ⟨n, hn, rfl⟩ := zI_get hx
          have hr := ll.2 n (List.mem_of_getElem? hn)
          have cl := cat_len (r.laps.take i) fun x hx => ll.2 x (List.mem_of_mem_take hx)
          rw [List.length_take] at cl
          walk_at "rd"
          refine x_lapJ rfl rfl (by rw [sL, sL, sL]; omega) hr.1 hr.2 ?_
          walk_at "rd"
          refine ⟨some (.int n), ?_, e4⟩
          rw [take_succ' hn, sepN_snoc, catS_snoc]
          simp only [sA]
          rfl
        · rintro σ H4 ⟨u, rfl, e4⟩
          rw [zI_len, List.take_length]
          walk_at "rd"
          have := h H4 (e12.trans (e3.trans e4))
          unfold rowText at this
          rw [if_neg c, ← hst, if_pos (by omega)] at this
          exact this
      · walk_at "rd"
        have := h H2 e12
        unfold rowText at this
        rw [if_neg c, ← hst, if_neg (by omega), eS] at this
        exact this
end
end TkL


namespace TkL
open PySem PySem.Spec PySem.Calls PyProof.Rows L2 Tk
section
variable {K : PySem.W.Frag} {C : Addr}
end
end TkL


namespace TkL
open PySem PySem.Spec PySem.Calls PyProof.Rows L2 Tk
theorem join_cat : ∀ (ws : List Str) (w : Str), Txt.join " " (w :: ws) = w ++ catS (ws.map fun x => (" " : Str) ++ x)
  | [], w => by rw [TL.join_eq]; exact (eS w).symm
  | v :: ws, w => by
    have ih := join_cat ws v
    rw [TL.join_eq] at ih ⊢
    show w ++ " " ++ Str.join " " (v :: ws) = _
    rw [ih, List.map_cons, catS_cons, sA, sA]
theorem catS_app : ∀ (l m : List Str), catS (l ++ m) = catS l ++ catS m
  | [], m => (sE _).symm
  | a :: l, m => by rw [List.cons_append, catS_cons, catS_cons, catS_app l m, sA]
theorem sepN_map (l : List Int) : sepN l = (l.map numS).map fun x => (" " : Str) ++ x := by unfold sepN; rw [List.map_map]; rfl
theorem plan_text (st : Int) (fs ls : List Int) : Txt.join " " (planWords st fs ls) = numS st ++ catS (sepN fs) ++ ((" |" : Str) ++ catS (sepN ls)) := by
  have e : planWords st fs ls = numS st :: (fs.map numS ++ (("|" : Str) :: ls.map numS)) := rfl
  have e2 : (" " : Str) ++ ("|" : Str) = " |" := by decide +kernel
  rw [e, join_cat, List.map_append, List.map_cons, catS_app, catS_cons, ← sepN_map, ← sepN_map, e2, sA]
theorem fin_text (st : Int) (fs : List Int) : Txt.join " " ((st :: fs).map numS) = numS st ++ catS (sepN fs) := by
  rw [List.map_cons, join_cat, ← sepN_map]
end TkL


namespace Tk
theorem tks_diffs : ∀ (a : Int) (l : List Int), tks a (diffs (a :: l)) = a :: l
  | a, [] => rfl
  | a, b :: l => by
    show a :: tks (a + (b - a)) (diffs (b :: l)) = a :: b :: l
    have e : a + (b - a) = b := by omega
    rw [e, tks_diffs b l]
theorem tks_shift : ∀ (a c : Int) (l : List Int), tks (a + c) l = (tks a l).map (· + c)
  | a, c, [] => rfl
  | a, c, b :: l => by
    show (a + c) :: tks (a + c + b) l = (a + c) :: (tks (a + b) l).map (· + c)
    have e : a + c + b = a + b + c := by omega
    rw [e, tks_shift (a + b) c l]
theorem plan_of_row {r : RV} (w : WF r.early r.beg r.len r.offs) (ho : r.offs ≠ []) : (∀ t, planHas (if 0 < r.early.length then r.early.getD 0 0 else r.beg + r.offs.getD 0 0) r.flaps r.laps t = r.has t) := by
  have l1 := w.l1
  obtain ⟨o0, os, eo⟩ : ∃ o0 os, r.offs = o0 :: os := by
    cases h : r.offs with
    | nil => exact absurd h ho
    | cons a l => exact ⟨a, l, rfl⟩
  have h0 := w.ow o0 (by rw [eo]; simp)
  have hfirst : ∀ x ∈ r.offs, o0 ≤ x := fun x hx => by
    have p := w.os
    rw [eo] at hx p
    rcases List.mem_cons.mp hx with e | e
    · omega
    · have := (List.pairwise_cons.mp p).1 x e; omega
  have ef : r.flaps = diffs (r.early ++ [r.beg + o0]) := by unfold RV.flaps; rw [eo]; rfl
  have el : r.laps = diffs (o0 :: (os ++ [o0 + r.len])) := by unfold RV.laps; rw [eo]; rfl
  have eg : r.offs.getD 0 0 = o0 := by rw [eo]; rfl
  rw [eg]
  have a1 : tks (if 0 < r.early.length then r.early.getD 0 0 else r.beg + o0) r.flaps = r.early ++ [r.beg + o0] := by
    rw [ef]
    cases he : r.early with
    | nil => rfl
    | cons x l => exact tks_diffs x (l ++ [r.beg + o0])
  generalize (if 0 < r.early.length then r.early.getD 0 0 else r.beg + o0) = st at *
  have a2 := tks_split (a := st) (l := r.flaps)
  rw [a1, List.dropLast_concat] at a2
  have a3 : r.beg + o0 = st + r.flaps.sum := by
    have := List.append_cancel_left a2
    exact (List.cons.inj this).1
  have b1 : tks o0 r.laps = o0 :: (os ++ [o0 + r.len]) := by rw [el]; exact tks_diffs _ _
  have b2 := tks_split (a := o0) (l := r.laps)
  have b1' : o0 :: (os ++ [o0 + r.len]) = r.offs ++ [o0 + r.len] := by rw [eo]; rfl
  rw [b1, b1', List.dropLast_concat] at b2
  have b3 : r.laps.sum = r.len := by
    have := (List.cons.inj (List.append_cancel_left b2)).1
    omega
  have c1 := tks_shift 0 o0 r.laps
  rw [Int.zero_add, b1, b1'] at c1
  have c2 : ∀ u, u ∈ (tks 0 r.laps).dropLast ↔ u + o0 ∈ r.offs := fun u => by
    have e : r.offs = ((tks 0 r.laps).dropLast).map (· + o0) := by
      have := congrArg List.dropLast c1
      rw [List.dropLast_concat] at this
      rw [this, List.map_dropLast]
    rw [e, List.mem_map]
    constructor
    · intro h; exact ⟨u, h, rfl⟩
    · rintro ⟨y, hy, e⟩
      have : y = u := by omega
      rw [← this]; exact hy
  intro t
  unfold planHas
  rw [a1, List.dropLast_concat, ← a3, b3]
  rcases Int.lt_or_le t (r.beg + o0) with c | c
  · rw [qhas_lo c]
    rcases Int.lt_or_le t r.beg with d | d
    · rw [RV.has_lo d]
    · rw [RV.has_hi d, Int.emod_eq_of_lt (by omega) (by omega), Bool.eq_iff_iff, decide_eq_true_iff, decide_eq_true_iff]
      exact ⟨fun h => by have := (w.er t h).2; omega, fun h => by have := hfirst _ h; omega⟩
  · rw [qhas_hi c, RV.has_hi (by omega), Bool.eq_iff_iff, decide_eq_true_iff, decide_eq_true_iff, c2]
    have r0 := Int.emod_nonneg (t - (r.beg + o0)) (show r.len ≠ 0 by omega)
    have r1 := Int.emod_lt_of_pos (t - (r.beg + o0)) (show 0 < r.len by omega)
    have e := Int.mul_ediv_add_emod (t - (r.beg + o0)) r.len
    generalize (t - (r.beg + o0)) / r.len = q at *
    generalize (t - (r.beg + o0)) % r.len = u at *
    rcases Int.lt_or_le (u + o0) r.len with d | d
    · have x := div_unique (u := t - r.beg) (q := q) (s := u + o0) (l := r.len) (by omega) d (by rw [Int.mul_comm]; omega)
      rw [x.2]
    · have x := div_unique (u := t - r.beg) (q := q + 1) (s := u + o0 - r.len) (l := r.len) (by omega) (by omega) (by rw [Int.add_mul, Int.mul_comm]; omega)
      rw [x.2]
      exact ⟨fun h => by have := (w.ow _ h).2; omega, fun h => by have := hfirst _ h; omega⟩
end Tk


namespace TkL
open PySem PySem.Spec PySem.Calls PyProof.Rows L2 Tk
theorem run_fin {s : Int} {fs : List Int} (h0 : 0 ≤ s) (hf : ∀ x ∈ fs, 1 ≤ x) (h1 : s + fs.sum ≤ 100000) : runP 0 ((s :: fs).map numS) ([], none) = some (s :: fs, none) := by
  have g1 := sum_nn hf
  show (match stepP 0 (numS s) ([], none) with | none => none | some s' => runP 1 (fs.map numS) s') = _
  rw [stepP_num h0 (fun z => absurd z (Nat.lt_irrefl _)) (by simp; omega) (by omega)]
  dsimp only
  rw [runP_nums fs 1 ([] ++ [s]) (by omega) hf (fun x hx => by simp at hx; omega) (by simp; omega) (by simp; omega)]
  rfl
end TkL


namespace TkL
open PySem PySem.Spec PySem.Calls PyProof.Rows L2 Tk
theorem split_fin {s : Int} {fs : List Int} (h0 : 0 ≤ s) (hf : ∀ x ∈ fs, 1 ≤ x) : Txt.split (Txt.join " " ((s :: fs).map numS)) " " = (s :: fs).map numS := by
  rw [map_numS (l := s :: fs) (fun x hx => by
    rcases List.mem_cons.mp hx with e | e
    · omega
    · have := hf x e; omega)]
  exact split_join (by simp [numLs]) free_nums
theorem numS_ne_never {i : Int} (h0 : 0 ≤ i) (h1 : i < 1000000) : numS i ≠ "never" := fun z => by
  have a := readN_num h0 h1
  have b : readN ("never" : Str) = none := by decide +kernel
  rw [z, b] at a; cases a
theorem parse_fin {s : Int} {fs : List Int} (h0 : 0 ≤ s) (hf : ∀ x ∈ fs, 1 ≤ x) (h1 : s + fs.sum ≤ 100000) : parseSet (Txt.join " " ((s :: fs).map numS)) = some fun t => decide (t ∈ ticksOf (s :: fs)) := by
  have g := sum_nn hf
  unfold parseSet
  rw [if_neg, split_fin h0 hf, run_fin h0 hf h1]
  intro z
  have a := split_fin h0 hf
  rw [z, never_split] at a
  have b := List.cons.inj a
  exact numS_ne_never h0 (by omega) b.1.symm
theorem first_sum {r : RV} (ho : r.offs ≠ []) : (if 0 < r.early.length then r.early.getD 0 0 else r.beg + r.offs.getD 0 0) + r.flaps.sum = r.beg + r.offs.getD 0 0 := by
  obtain ⟨o0, os, eo⟩ : ∃ o0 os, r.offs = o0 :: os := by
    cases h : r.offs with
    | nil => exact absurd h ho
    | cons a l => exact ⟨a, l, rfl⟩
  have ef : r.flaps = diffs (r.early ++ [r.beg + o0]) := by unfold RV.flaps; rw [eo]; rfl
  have eg : r.offs.getD 0 0 = o0 := by rw [eo]; rfl
  rw [eg]
  have a1 : tks (if 0 < r.early.length then r.early.getD 0 0 else r.beg + o0) r.flaps = r.early ++ [r.beg + o0] := by
    rw [ef]
    cases he : r.early with
    | nil => rfl
    | cons x l => exact tks_diffs x (l ++ [r.beg + o0])
  have a2 := tks_split (a := if 0 < r.early.length then r.early.getD 0 0 else r.beg + o0) (l := r.flaps)
  rw [a1, List.dropLast_concat] at a2
  have := List.append_cancel_left a2
  exact (List.cons.inj this).1.symm
theorem laps_sum {r : RV} (ho : r.offs ≠ []) : r.laps.sum = r.len := by
  obtain ⟨o0, os, eo⟩ : ∃ o0 os, r.offs = o0 :: os := by
    cases h : r.offs with
    | nil => exact absurd h ho
    | cons a l => exact ⟨a, l, rfl⟩
  have el : r.laps = diffs (o0 :: (os ++ [o0 + r.len])) := by unfold RV.laps; rw [eo]; rfl
  have b1 : tks o0 r.laps = o0 :: (os ++ [o0 + r.len]) := by rw [el]; exact tks_diffs _ _
  have b2 := tks_split (a := o0) (l := r.laps)
  have b1' : o0 :: (os ++ [o0 + r.len]) = r.offs ++ [o0 + r.len] := by rw [eo]; rfl
  rw [b1, b1', List.dropLast_concat] at b2
  have := (List.cons.inj (List.append_cancel_left b2)).1
  omega
theorem laps_pos {r : RV} (w : WF r.early r.beg r.len r.offs) : (∀ x ∈ r.flaps, 1 ≤ x) ∧ ∀ x ∈ r.laps, 1 ≤ x := by
  have l1 := w.l1
  have to : ∀ y ∈ r.offs.take 1, 0 ≤ y ∧ y < r.len := fun y hy => w.ow y (List.mem_of_mem_take hy)
  constructor
  · refine diffs_pos ?_
    rw [List.pairwise_append]
    refine ⟨w.es, ?_, fun u hu v hv => ?_⟩
    · cases r.offs with
      | nil => exact .nil
      | cons a l => simp
    · obtain ⟨y, hy, rfl⟩ := List.mem_map.mp hv
      have := w.er u hu
      have := to y hy
      omega
  · refine diffs_pos ?_
    rw [List.pairwise_append]
    refine ⟨w.os, ?_, fun u hu v hv => ?_⟩
    · cases r.offs with
      | nil => exact .nil
      | cons a l => simp
    · obtain ⟨y, hy, rfl⟩ := List.mem_map.mp hv
      have := w.ow u hu
      have := to y hy
      omega
theorem last_tick {e : List Int} (h : e ≠ []) : e.getD 0 0 + (diffs e).sum = e.getLastD 0 := by
  obtain ⟨a, l, rfl⟩ : ∃ a l, e = a :: l := by
    cases e with
    | nil => exact absurd rfl h
    | cons a l => exact ⟨a, l, rfl⟩
  have b1 := tks_diffs a l
  have b2 := tks_split (a := a) (l := diffs (a :: l))
  rw [b1] at b2
  have e : (a :: l).getLastD 0 = ((a :: l).dropLast ++ [a + (diffs (a :: l)).sum]).getLastD 0 := by rw [← b2]
  rw [e, List.getLastD_eq_getLast?, List.getLast?_append]
  rfl
theorem parse_text {r : RV} (rb : RB r) (he : r.offs ≠ [] → r.beg + r.offs.getD 0 0 ≤ 100000) (hf : r.offs = [] → r.early.getLastD 0 ≤ 100000) : ∃ S, parseSet (rowText r) = some S ∧ ∀ t, S t = r.has t := by
  have w := rb.c.wf
  have lp := laps_pos w
  have b0 := w.b0
  by_cases ho : r.offs = []
  · by_cases hr : r.early = []
    · refine ⟨fun _ => false, ?_, fun t => ?_⟩
      · have : rowText r = "never" := by unfold rowText; rw [if_pos (by rw [ho, hr]; rfl)]
        rw [this]
        unfold parseSet
        rw [if_pos rfl]
      · rcases Int.lt_or_le t r.beg with q | q
        · rw [RV.has_lo q, hr]; rfl
        · rw [RV.has_hi q, ho]; rfl
    · have el := List.length_pos_iff.mpr hr
      have fl : r.flaps = diffs r.early := by unfold RV.flaps; rw [ho]; simp
      have e : rowText r = Txt.join " " ((r.early.getD 0 0 :: r.flaps).map numS) := by
        unfold rowText
        rw [if_neg (by omega), fin_text, if_pos el, if_neg (show ¬ 0 < r.offs.length by rw [ho]; decide), eS]
      have h0 : 0 ≤ r.early.getD 0 0 := by
        have m : r.early.getD 0 0 ∈ r.early := by rw [List.getD_eq_getElem?_getD, List.getElem?_eq_getElem el]; exact List.getElem_mem el
        exact (w.er _ m).1
      refine ⟨_, by rw [e]; exact parse_fin h0 lp.1 (by rw [fl, last_tick hr]; exact hf ho), fun t => ?_⟩
      have tk : ticksOf (r.early.getD 0 0 :: r.flaps) = r.early := by
        rw [fl]
        cases hc : r.early with
        | nil => exact absurd hc hr
        | cons a l => exact tks_diffs a l
      rw [tk]
      rcases Int.lt_or_le t r.beg with q | q
      · rw [RV.has_lo q]
      · rw [RV.has_hi q, ho]
        simp only [List.not_mem_nil, decide_false]
        exact decide_eq_false fun z => by have := (w.er t z).2; omega
  · have ol := List.length_pos_iff.mpr ho
    have e : rowText r = Txt.join " " (planWords (if 0 < r.early.length then r.early.getD 0 0 else r.beg + r.offs.getD 0 0) r.flaps r.laps) := by
      unfold rowText
      rw [if_neg (by omega), plan_text, if_pos ol]
    have h0 : 0 ≤ (if 0 < r.early.length then r.early.getD 0 0 else r.beg + r.offs.getD 0 0) := by
      by_cases c : 0 < r.early.length
      · rw [if_pos c]
        have m : r.early.getD 0 0 ∈ r.early := by rw [List.getD_eq_getElem?_getD, List.getElem?_eq_getElem c]; exact List.getElem_mem c
        exact (w.er _ m).1
      · rw [if_neg c]
        have m : r.offs.getD 0 0 ∈ r.offs := by rw [List.getD_eq_getElem?_getD, List.getElem?_eq_getElem ol]; exact List.getElem_mem ol
        have := w.ow _ m
        omega
    have ln : r.laps ≠ [] := fun z => by
      have := laps_sum ho
      rw [z] at this
      have h0 : (0 : Int) = r.len := this
      have := w.l1
      omega
    refine ⟨_, by rw [e]; exact parse_plan h0 lp.1 lp.2 ln (by rw [first_sum ho]; exact he ho) (by rw [laps_sum ho]; exact rb.lb), fun t => ?_⟩
    exact plan_of_row w ho t
theorem text_len {r : RV} (rb : RB r) : (rowText r).length ≤ 7 * (r.early.length + r.offs.length + 4) := by
  have ll := lap_lists rb
  have c1 := cat_len r.flaps ll.1
  have c2 := cat_len r.laps ll.2
  have w := rb.c.wf
  have bb := rb.bb
  have lb := rb.lb
  have b0 := w.b0
  have dl : ∀ l : List Int, (diffs l).length ≤ l.length - 1 := fun l => by
    induction l with
    | nil => simp [diffs]
    | cons a l ih =>
      cases l with
      | nil => simp [diffs]
      | cons b l => show (diffs (b :: l)).length + 1 ≤ _; simp at ih ⊢; omega
  have f1 : r.flaps.length ≤ r.early.length + 1 := by
    have := dl (r.early ++ (r.offs.take 1).map (r.beg + ·))
    have e : r.flaps = diffs (r.early ++ (r.offs.take 1).map (r.beg + ·)) := rfl
    rw [e]
    rw [List.length_append, List.length_map, List.length_take] at this
    omega
  have f2 : r.laps.length ≤ r.offs.length + 1 := by
    have := dl (r.offs ++ (r.offs.take 1).map (· + r.len))
    have e : r.laps = diffs (r.offs ++ (r.offs.take 1).map (· + r.len)) := rfl
    rw [e]
    rw [List.length_append, List.length_map, List.length_take] at this
    omega
  unfold rowText
  by_cases c : r.early.length + r.offs.length = 0
  · rw [if_pos c]
    have : ("never" : Str).length = 5 := by decide
    omega
  · rw [if_neg c]
    have n6 : (numS (if 0 < r.early.length then r.early.getD 0 0 else r.beg + r.offs.getD 0 0)).length ≤ 6 := by
      refine (numS_len ?_ ?_).2
      · by_cases c1 : 0 < r.early.length
        · rw [if_pos c1]
          have m : r.early.getD 0 0 ∈ r.early := by rw [List.getD_eq_getElem?_getD, List.getElem?_eq_getElem c1]; exact List.getElem_mem c1
          exact (w.er _ m).1
        · rw [if_neg c1]
          have ol : 0 < r.offs.length := by omega
          have m : r.offs.getD 0 0 ∈ r.offs := by rw [List.getD_eq_getElem?_getD, List.getElem?_eq_getElem ol]; exact List.getElem_mem ol
          have := w.ow _ m
          omega
      · by_cases c1 : 0 < r.early.length
        · rw [if_pos c1]
          have m : r.early.getD 0 0 ∈ r.early := by rw [List.getD_eq_getElem?_getD, List.getElem?_eq_getElem c1]; exact List.getElem_mem c1
          have := w.er _ m
          omega
        · rw [if_neg c1]
          have ol : 0 < r.offs.length := by omega
          have m : r.offs.getD 0 0 ∈ r.offs := by rw [List.getD_eq_getElem?_getD, List.getElem?_eq_getElem ol]; exact List.getElem_mem ol
          have := w.ow _ m
          omega
    have b2 : (" |" : Str).length = 2 := by decide
    by_cases c2 : 0 < r.offs.length
    · rw [if_pos c2, sL, sL, sL, b2]; omega
    · rw [if_neg c2, eS, sL]; omega
end TkL


namespace TkL
open PySem PySem.Spec PySem.Calls PyProof.Rows L2
section
variable {prog : Program} {w : World} {A : Around} {E : Value → Shared → Prop} {s : Shared}
end
section
variable {X : Cx} {CX : CXT} {k : Nat} {C : Addr} {ps : List Str} {sp : Sp} {E : XK}
end
end TkL


namespace TkL
open PySem PySem.Spec PyProof.Rows L2
theorem tuple_mul1 (l : Addr) (items : Array Value) (n : Nat) (dd : Option Addr) (sl : Array (Option Value)) (u : Tok) :
    Meets (Builtin.«tuple.__mul__» ⟨[.ref l, .int 1 u], []⟩) (fun _ R s => s.heap.get? l = some { cls := .type "tuple", dict := dd, data := .seq items n, slots := sl } ∧ R (.ok (.ret (Value.ref l))) s) :=
  .of_wp fun prog w A R s h => by
    obtain ⟨hp, g, d, tk, os⟩ := s
    obtain ⟨hl, h⟩ := h
    have f1 := AutoSeq1.idx_int
    have c1 : (items.isEmpty || (1 : Int) == 1) = true := by rw [Bool.or_eq_true]; exact .inr rfl
    wp_walk using wpAny_loadPart' hl
    repeat (first
      | (refine wpAny_ite_true (decide_eq_true c1) ?_; wp_walk using wpAny_loadPart' hl)
      | (refine wpAny_ite_false (decide_eq_false (by decide)) ?_; wp_walk using wpAny_loadPart' hl))
    exact ⟨_, rfl, h⟩
def rRepA (K : PySem.W.Frag) : R2 := fun x y H Q => rRepT K x y H Q ∨ ∃ l xs, x = .ref l ∧ y = .int 1 ∧ SqT K H l xs ∧ Q (.ref l) H
theorem op_repA {X : Cx} : OpR X (binaryOp .Mult) (rRepA X.K) := by
  intro pins s σ H x y v u Q I rx ry h
  rcases h with h | ⟨l, xs, rfl, rfl, hT, q⟩
  · exact op_repT pins s σ H x y v u Q I rx ry h
  cases rx
  obtain ⟨t, rfl⟩ := ry
  obtain ⟨its, r, ⟨⟨cls, dd, data, sl⟩, ho, hc, n, hd⟩, hs⟩ := I.tuple hT
  simp only at hc hd
  subst hc hd
  refine wpAny_binaryOp_repeat_ref (T := "tuple") (U := "int") (by decide) ⟨_, ho, rfl⟩ (fun s' => typeIs_int s' 1 t) noFill_tuple_mul F.fills_int_mul F.slot_int_rmul repeat_tuple F.slot_int_index.lookup
    (call_meets F.slot_int_rmul (typeIs_int s 1 t) F.entry_int_rmul (F.args_int_rmul_2 _ _) (int_rmul_tuple 1 t l its.toArray n dd sl)
      ⟨ho, rfl, ⟨_, ho, rfl⟩, call_meets F.slot_tuple_mul ⟨_, ho, rfl⟩ F.entry_tuple_mul (F.args_tuple_mul_2 _ _) (tuple_mul1 l its.toArray n dd sl t) ⟨ho, ?_⟩⟩)
  exact ⟨.ref l, H, I, rfl, q⟩
end TkL


namespace TkL
open PySem PySem.Spec PySem.Calls PyProof.Rows L2
section
variable {X : Cx} {CX : CXT} {k : Nat} {C : Addr} {ps : List Str} {sp : Sp} {E : XK}
end
end TkL


namespace TkL
open PySem PySem.Spec PySem.Calls PyProof.Rows L2 Tk
section
variable {K : PySem.W.Frag} {C : Addr}
end
end TkL


namespace TkL
open PySem PySem.Spec PySem.Calls PyProof.Rows L2 Tk
inductive D where
  | int (i : Int) | bl (b : Bool) | str (s : Str) | non | cls | src
  | tup (l : List D) | lst (l : List D)
  | row (r : RV)
  | mrk (ks : List Int)
  | dct (ks : List Str) (vs : List D)
structure Mu where
  At : PySem.W.Frag → Addr → Option Addr → Hp → Hp → Addr → List Addr → Prop
  st : ∀ {K C dO H H' F F' p fp}, At K C dO H F p fp → (∀ x ∈ fp, H' x = H x) → Ex F F' → At K C dO H' F' p fp
inductive Sl where
  | no | val (d : D) | own (l : List D) | mu (M : Mu) (fp : List Addr)
abbrev Env := List Sl
structure Bs where
  K : PySem.W.Frag
  C : Addr
  dO : Option Addr
  H0 : Hp
  F0 : Hp
  T : List (Addr × Str)
mutual
inductive Rep (K : PySem.W.Frag) (C : Addr) (dO : Option Addr) : Hp → V → D → Prop
  | int {F i} : Rep K C dO F (.int i) (.int i)
  | bl {F b} : Rep K C dO F (.bl b) (.bl b)
  | str {F s} : Rep K C dO F (.str s) (.str s)
  | non {F} : Rep K C dO F .non .non
  | cls {F} : Rep K C dO F (.ref C) .cls
  | src {F a} : dO = some a → Rep K C dO F (.ref a) .src
  | tup {F p vs ds} : SqT K F p vs → Reps K C dO F vs ds → Rep K C dO F (.ref p) (.tup ds)
  | lst {F p vs ds} : F p = some (.lst vs) → Reps K C dO F vs ds → Rep K C dO F (.ref p) (.lst ds)
  | row {F a r} : RowAt K C F a r → Rep K C dO F (.ref a) (.row r)
  | mrk {F p ks} : F p = some (.dK (mkD ks)) → Rep K C dO F (.ref p) (.mrk ks)
  | dct {F p ks vs ds} : F p = some (.dK ((ks.map Sum.inr).zip vs)) → ks.length = vs.length → Reps K C dO F vs ds → Rep K C dO F (.ref p) (.dct ks ds)
inductive Reps (K : PySem.W.Frag) (C : Addr) (dO : Option Addr) : Hp → List V → List D → Prop
  | nil {F} : Reps K C dO F [] []
  | cons {F v d vs ds} : Rep K C dO F v d → Reps K C dO F vs ds → Reps K C dO F (v :: vs) (d :: ds)
end
theorem RowAt.ex' {K : PySem.W.Frag} {C : Addr} {H H' : Hp} {a : Addr} {r : RV} (I : RowAt K C H a r) (e : Ex H H') : RowAt K C H' a r := by
  obtain ⟨dx, p1, p2, p3, p4, I⟩ := I
  exact ⟨dx, p1, p2, p3, p4, ⟨e _ _ I.ob, e.sqT I.e, e.sqT I.o, e _ _ I.m, e.sqT I.p, I.rb⟩⟩
theorem RowAt.rb {K : PySem.W.Frag} {C : Addr} {H : Hp} {a : Addr} {r : RV} (I : RowAt K C H a r) : RB r := by
  obtain ⟨dx, p1, p2, p3, p4, I⟩ := I
  exact I.rb
section
variable {K : PySem.W.Frag} {C : Addr} {dO : Option Addr} {F F' : Hp}
mutual
theorem Rep.ex {v : V} {d : D} (e : Ex F F') : Rep K C dO F v d → Rep K C dO F' v d
  | .int => .int
  | .bl => .bl
  | .str => .str
  | .non => .non
  | .cls => .cls
  | .src h => .src h
  | .tup h r => .tup (e.sqT h) (Reps.ex e r)
  | .lst h r => .lst (e _ _ h) (Reps.ex e r)
  | .row h => .row (h.ex' e)
  | .mrk h => .mrk (e _ _ h)
  | .dct h l r => .dct (e _ _ h) l (Reps.ex e r)
theorem Reps.ex {v : List V} {d : List D} (e : Ex F F') : Reps K C dO F v d → Reps K C dO F' v d
  | .nil => .nil
  | .cons h r => .cons (Rep.ex e h) (Reps.ex e r)
end
theorem Reps.len : ∀ {vs : List V} {ds : List D}, Reps K C dO F vs ds → vs.length = ds.length
  | _, _, .nil => rfl
  | _, _, .cons _ r => congrArg (· + 1) r.len
theorem Reps.get : ∀ {vs : List V} {ds : List D} {i : Nat} {v : V}, Reps K C dO F vs ds → vs[i]? = some v → ∃ d, ds[i]? = some d ∧ Rep K C dO F v d
  | _, _, _, _, .nil, e => by simp at e
  | _, _, 0, _, .cons r _, e => by simp at e; subst e; exact ⟨_, rfl, r⟩
  | _, _, i + 1, v, .cons _ t, e => by
    obtain ⟨u, h1, h2⟩ := Reps.get (i := i) (v := v) t (by simpa using e)
    exact ⟨u, by simpa using h1, h2⟩
theorem Reps.get' : ∀ {vs : List V} {ds : List D} {i : Nat} {d : D}, Reps K C dO F vs ds → ds[i]? = some d → ∃ v, vs[i]? = some v ∧ Rep K C dO F v d
  | _, _, _, _, .nil, e => by simp at e
  | _, _, 0, _, .cons r _, e => by simp at e; subst e; exact ⟨_, rfl, r⟩
  | _, _, i + 1, v, .cons _ t, e => by
    obtain ⟨u, h1, h2⟩ := Reps.get' (i := i) (d := v) t (by simpa using e)
    exact ⟨u, by simpa using h1, h2⟩
theorem Reps.app : ∀ {vs us : List V} {ds es : List D}, Reps K C dO F vs ds → Reps K C dO F us es → Reps K C dO F (vs ++ us) (ds ++ es)
  | _, _, _, _, .nil, h => h
  | _, _, _, _, .cons r t, h => .cons r (t.app h)
theorem Reps.take : ∀ {vs : List V} {ds : List D} (n : Nat), Reps K C dO F vs ds → Reps K C dO F (vs.take n) (ds.take n)
  | _, _, 0, _ => .nil
  | _, _, _ + 1, .nil => .nil
  | _, _, n + 1, .cons r t => .cons r (t.take n)
theorem Reps.drop : ∀ {vs : List V} {ds : List D} (n : Nat), Reps K C dO F vs ds → Reps K C dO F (vs.drop n) (ds.drop n)
  | _, _, 0, h => h
  | _, _, _ + 1, .nil => .nil
  | _, _, n + 1, .cons _ t => t.drop n
theorem Reps.rep {vs : List V} {ds : List D} (h : Reps K C dO F vs ds) : ∀ n : Nat, Reps K C dO F (List.replicate n vs).flatten (List.replicate n ds).flatten
  | 0 => .nil
  | n + 1 => by
    rw [List.replicate_succ, List.replicate_succ, List.flatten_cons, List.flatten_cons]
    exact h.app (h.rep n)
def iL (l : List Int) : List D := l.map D.int
def bL (l : List Bool) : List D := l.map D.bl
def strL (l : List Str) : List D := l.map D.str
theorem Reps.ints : ∀ {l : List Int} {vs : List V}, Reps K C dO F vs (iL l) → vs = l.map V.int
  | [], _, .nil => rfl
  | a :: l, _, .cons .int t => by rw [Reps.ints (l := l) t]; rfl
theorem Reps.bls : ∀ {l : List Bool} {vs : List V}, Reps K C dO F vs (bL l) → vs = l.map V.bl
  | [], _, .nil => rfl
  | a :: l, _, .cons .bl t => by rw [Reps.bls (l := l) t]; rfl
end
def Kpo (dO : Option Addr) (H H' : Hp) : Prop := ∀ x o, some x ≠ dO → H x = some o → H' x = some o
def KpT (T : List (Addr × Str)) (dO : Option Addr) (H H' : Hp) : Prop := ∀ x o, some x ≠ dO → (∀ q, (x, q) ∉ T) → H x = some o → H' x = some o
def Mut (C : Addr) (o : HO) : Prop := (∃ l, o = .lst l) ∨ (∃ ps, o = .tbl ps) ∨ (∃ kvs, o = .dT kvs) ∨ (∃ D dx fs, o = .ins D dx fs ∧ D ≠ C) ∨ ∃ (k : Str) (v : V) (kvs : List (Key × V)), o = .dK ((Sum.inr k, v) :: kvs)
structure RelH (B : Bs) (H F : Hp) : Prop where
  fh : Ex F H
  ff : Ex B.F0 F
  f0 : ∀ x, B.H0 x ≠ none → B.F0 x = none → F x = none
  lk : ∀ x o, H x = some o → F x = none → Mut B.C o
  kp : KpT B.T B.dO B.H0 H
  hd : ∀ d, B.dO = some d → B.H0 d ≠ none
  dd : ∀ d, B.dO = some d → DAt d H ∧ F d = none
  tb : LamX.Tabs B.T H
  tz : ∀ p ∈ B.T, F p.1 = none
  nt : ∀ x ps, F x ≠ some (.tbl ps)
  ht : B.T ≠ [] → ∀ x ps, B.H0 x = some (.tbl ps) → ∃ q, (x, q) ∈ B.T
structure RelF (B : Bs) (H F : Hp) (σ : L2.St) (ρ : Env) : Prop extends RelH B H F where
  len : σ.length = ρ.length
  val : ∀ (i : Nat) d, ρ[i]? = some (.val d) → ∃ v, σ[i]? = some (some v) ∧ Rep B.K B.C B.dO F v d
  own : ∀ (i : Nat) l, ρ[i]? = some (.own l) → ∃ p vs, σ[i]? = some (some (.ref p)) ∧ B.H0 p = none ∧ F p = none ∧ H p = some (.lst vs) ∧ Reps B.K B.C B.dO F vs l
  inj : ∀ (i j : Nat) l m p, ρ[i]? = some (.own l) → ρ[j]? = some (.own m) → σ[i]? = some (some (.ref p)) → σ[j]? = some (some (.ref p)) → i = j
  mu : ∀ (i : Nat) M fp, ρ[i]? = some (.mu M fp) → ∃ p, σ[i]? = some (some (.ref p)) ∧ M.At B.K B.C B.dO H F p fp ∧ ∀ x ∈ fp, B.H0 x = none ∧ F x = none ∧ ∃ o, H x = some o ∧ ∀ ps, o ≠ .tbl ps
  mo : ∀ (i j : Nat) M fp l p, ρ[i]? = some (.mu M fp) → ρ[j]? = some (.own l) → σ[j]? = some (some (.ref p)) → p ∉ fp
  mm : ∀ (i j : Nat) M N fp gp x, i ≠ j → ρ[i]? = some (.mu M fp) → ρ[j]? = some (.mu N gp) → x ∈ fp → x ∉ gp
theorem Kpo.refl {dO : Option Addr} {H : Hp} : Kpo dO H H := fun _ _ _ h => h
theorem Kpo.trans {dO : Option Addr} {H H1 H2 : Hp} (a : Kpo dO H H1) (b : Kpo dO H1 H2) : Kpo dO H H2 := fun x o n h => b x o n (a x o n h)
theorem Ex.kpo {dO : Option Addr} {H H1 : Hp} (a : Ex H H1) : Kpo dO H H1 := fun x o _ h => a x o h
open Classical in
noncomputable def growF (F H H' : Hp) : Hp := fun x => if (H x ≠ none ∧ F x = none ∧ ∀ ps, H x ≠ some (.tbl ps)) ∨ (∃ ps, H' x = some (.tbl ps)) then none else H' x
theorem growF_nt {F H H' : Hp} (x : Addr) (ps : Array Value) : growF F H H' x ≠ some (.tbl ps) := fun h => by
  unfold growF at h
  split at h
  · cases h
  · rename_i c
    exact c (.inr ⟨ps, h⟩)
theorem growF_none {F H H' : Hp} {x : Addr} (h : H x ≠ none) (f : F x = none) (n : ∀ ps, H x = some (.tbl ps) → ∃ ps, H' x = some (.tbl ps)) : growF F H H' x = none := by
  unfold growF
  by_cases c : ∀ ps, H x ≠ some (.tbl ps)
  · rw [if_pos (.inl ⟨h, f, c⟩)]
  · have c' : ∃ ps, H x = some (.tbl ps) := Classical.byContradiction fun z => c fun ps e => z ⟨ps, e⟩
    obtain ⟨ps, e⟩ := c'
    rw [if_pos (.inr (n ps e))]
theorem growF_new {F H H' : Hp} {x : Addr} (h : H x = none) (n : ∀ ps, H' x ≠ some (.tbl ps)) : growF F H H' x = H' x := by
  unfold growF; rw [if_neg]
  rintro (z | ⟨ps, z⟩)
  · exact z.1 h
  · exact n ps z
theorem growF_some {F H H' : Hp} {x : Addr} (h : F x ≠ none) (n : ∀ ps, H' x ≠ some (.tbl ps)) : growF F H H' x = H' x := by
  unfold growF; rw [if_neg]
  rintro (z | ⟨ps, z⟩)
  · exact h z.2.1
  · exact n ps z
theorem growF_ex {F H H' : Hp} : Ex (growF F H H') H' := fun x o h => by
  unfold growF at h
  split at h
  · cases h
  · exact h
section
variable {B : Bs} {H F H' F' : Hp} {σ : L2.St} {ρ : Env}
theorem RelH.d0 (R : RelH B H F) {x : Addr} (h : B.H0 x = none) : some x ≠ B.dO := fun z => R.hd x z.symm h
theorem RelH.dF (R : RelH B H F) {x : Addr} (h : F x ≠ none) : some x ≠ B.dO := fun z => h (R.dd x z.symm).2
theorem DAt.some {d : Addr} (h : DAt d H) : H d ≠ none := by
  obtain ⟨ds, e, _⟩ := h
  rw [e]; exact Option.some_ne_none _
theorem KpT.refl {T : List (Addr × Str)} {dO : Option Addr} {H : Hp} : KpT T dO H H := fun _ _ _ _ h => h
theorem KpT.trans {T : List (Addr × Str)} {dO : Option Addr} {H H1 H2 : Hp} (a : KpT T dO H H1) (b : Kpo dO H1 H2) : KpT T dO H H2 := fun x o n q h => b x o n (a x o n q h)
theorem KpT.full {dO : Option Addr} {H H1 : Hp} (a : KpT [] dO H H1) : Kpo dO H H1 := fun x o n h => a x o n (fun _ z => nomatch z) h
theorem tabs_kpo {T : List (Addr × Str)} {dO : Option Addr} {H H' : Hp} (t : LamX.Tabs T H) (hd : ∀ d, dO = some d → DAt d H) (k : Kpo dO H H') : LamX.Tabs T H' := fun p hp => by
  obtain ⟨ps, h1, h2, h3⟩ := t p hp
  have nd : ∀ {x : Addr} {o : HO}, H x = some o → (∀ l, o ≠ .lst l) → some x ≠ dO := fun e n z => by
    obtain ⟨ds, q, _⟩ := hd _ z.symm
    rw [e] at q
    exact n _ (Option.some.inj q)
  refine ⟨ps, k _ _ (nd h1 fun _ z => nomatch z) h1, h2, fun pos cv hc => ?_⟩
  obtain ⟨c, e1, e2⟩ := h3 pos cv hc
  exact ⟨c, e1, k _ _ (nd e2 fun _ z => by unfold LamX.CodeO at z; cases z) e2⟩
theorem RelH.hn (R : RelH B H F) {x : Addr} (h : B.H0 x ≠ none) : H x ≠ none := by
  by_cases c : some x = B.dO
  · exact (R.dd x c.symm).1.some
  · by_cases t : ∃ q, (x, q) ∈ B.T
    · obtain ⟨q, hq⟩ := t
      obtain ⟨ps, e, _⟩ := R.tb _ hq
      have e' : H x = some (.tbl ps) := e
      rw [e']; exact Option.some_ne_none _
    · cases e : B.H0 x with
      | none => exact absurd e h
      | some o => rw [R.kp x o c (fun q z => t ⟨q, z⟩) e]; exact Option.some_ne_none _
theorem RelH.n0 (R : RelH B H F) {x : Addr} (h : H x = none) : B.H0 x = none := by
  cases e : B.H0 x with
  | none => rfl
  | some o => exact absurd h (R.hn (by rw [e]; exact Option.some_ne_none _))
structure St1 (B : Bs) (H F H' F' : Hp) : Prop where
  ex : Ex F F'
  kp : Kpo B.dO H H'
  rel : ∀ σ ρ, RelF B H F σ ρ → RelF B H' F' σ ρ
  relH : RelH B H F → RelH B H' F'
  fz : RelH B H F → ∀ x, H x ≠ none → F x = none → F' x = none
theorem Kpo.nn {H H' F' : Hp} (k : Kpo B.dO H H') (R' : RelH B H' F') {x : Addr} (h : H x ≠ none) : H' x ≠ none := by
  by_cases c : some x = B.dO
  · exact (R'.dd x c.symm).1.some
  · cases e : H x with
    | none => exact absurd e h
    | some o => rw [k x o c e]; exact Option.some_ne_none _
theorem St1.refl : St1 B H F H F := ⟨Ex.refl _, Kpo.refl, fun _ _ h => h, fun h => h, fun _ _ _ h => h⟩
theorem St1.trans {H1 F1 : Hp} (a : St1 B H F H1 F1) (b : St1 B H1 F1 H' F') : St1 B H F H' F' := ⟨a.ex.trans b.ex, a.kp.trans b.kp, fun σ ρ h => b.rel σ ρ (a.rel σ ρ h), fun h => b.relH (a.relH h), fun R x h1 h2 => b.fz (a.relH R) x (a.kp.nn (a.relH R) h1) (a.fz R x h1 h2)⟩
theorem St1.mk' (R : RelH B H F) (kp : Kpo B.dO H H') (dd : ∀ d, B.dO = some d → DAt d H') (ex : Ex F F') (fh : Ex F' H') (f0 : ∀ x, H x ≠ none → F x = none → F' x = none) (lk : ∀ x o, H' x = some o → F' x = none → Mut B.C o) (nt : ∀ x ps, F' x ≠ some (.tbl ps)) : St1 B H F H' F' := by
  have rh : RelH B H F → RelH B H' F' := fun R => ⟨fh, R.ff.trans ex, fun x a b => f0 x (R.hn a) (R.f0 x a b), lk, R.kp.trans kp, R.hd, fun d e => ⟨dd d e, f0 d (R.dd d e).1.some (R.dd d e).2⟩, tabs_kpo R.tb (fun d e => (R.dd d e).1) kp, fun p hp => by
    obtain ⟨ps, e, _⟩ := R.tb p hp
    exact f0 p.1 (by rw [e]; exact Option.some_ne_none _) (R.tz p hp), nt, R.ht⟩
  refine ⟨ex, kp, fun σ ρ r => ⟨rh r.toRelH, r.len, fun i d e => ?_, fun i l e => ?_, r.inj, fun i M fp e => ?_, r.mo, r.mm⟩, rh, fun _ => f0⟩
  · obtain ⟨v, a, b⟩ := r.val i d e
    exact ⟨v, a, b.ex ex⟩
  · obtain ⟨p, vs, a, b, c, d, g⟩ := r.own i l e
    exact ⟨p, vs, a, b, f0 p (by rw [d]; exact Option.some_ne_none _) c, kp p _ (r.d0 b) d, g.ex ex⟩
  · obtain ⟨p, a, b, c⟩ := r.mu i M fp e
    have keep : ∀ x ∈ fp, H' x = H x := fun x hx => by
      obtain ⟨c1, c2, o, c3, c4⟩ := c x hx
      rw [c3]; exact kp x o (r.d0 c1) c3
    refine ⟨p, a, M.st b keep ex, fun x hx => ?_⟩
    obtain ⟨c1, c2, o, c3, c4⟩ := c x hx
    exact ⟨c1, f0 x (by rw [c3]; exact Option.some_ne_none _) c2, o, by rw [keep x hx]; exact c3, c4⟩
theorem growF_get (R : RelH B H F) (kp : Kpo B.dO H H') (dd : ∀ d, B.dO = some d → DAt d H') {x : Addr} {o : HO} (h : H' x = some o) (n : ¬ Mut B.C o) : growF F H H' x = some o := by
  by_cases c : H x ≠ none ∧ F x = none
  · exfalso
    by_cases cd : some x = B.dO
    · obtain ⟨ds, e, _⟩ := dd x cd.symm
      rw [h] at e
      exact n (.inl ⟨_, Option.some.inj e⟩)
    · cases e : H x with
      | none => exact c.1 e
      | some u =>
        have q := R.lk x u e c.2
        rw [kp x _ cd e] at h
        exact n (Option.some.inj h ▸ q)
  · have nt : ∀ ps, H' x ≠ some (.tbl ps) := fun ps z => n (by rw [h] at z; exact .inr (.inl ⟨ps, Option.some.inj z⟩))
    by_cases e : H x = none
    · rw [growF_new e nt]; exact h
    · rw [growF_some (fun z => c ⟨e, z⟩) nt]; exact h
theorem St1.grow (R : RelH B H F) (kp : Kpo B.dO H H') (dd : ∀ d, B.dO = some d → DAt d H') : St1 B H F H' (growF F H H') := by
  refine St1.mk' R kp dd (fun x o h => ?_) growF_ex (fun x a b => growF_none a b fun ps z => ⟨ps, kp x _ (fun q => by
    obtain ⟨ds, e, _⟩ := (R.dd x q.symm).1
    rw [z] at e; cases e) z⟩) (fun x o h g => ?_) growF_nt
  · have hn : F x ≠ none := by rw [h]; exact Option.some_ne_none _
    have e := kp x o (R.dF hn) (R.fh x o h)
    rw [growF_some hn (fun ps z => by rw [e] at z; cases z; exact R.nt x ps h)]
    exact e
  · refine Classical.byContradiction fun n => ?_
    rw [growF_get R kp dd h n] at g
    cases g
theorem St1.growE (R : RelH B H F) (e : Ex H H') : St1 B H F H' (growF F H H') := St1.grow R e.kpo fun d h => by
  obtain ⟨ds, a, b⟩ := (R.dd d h).1
  exact ⟨ds, e _ _ a, b⟩
theorem nmut_tup {C : Addr} {l : List V} : ¬ Mut C (.tup l) := by
  rintro (⟨_, h⟩ | ⟨_, h⟩ | ⟨_, h⟩ | ⟨_, _, _, h, _⟩ | ⟨_, _, _, h⟩) <;> cases h
theorem nmut_dK {C : Addr} {l : List Int} : ¬ Mut C (.dK (mkD l)) := by
  rintro (⟨_, h⟩ | ⟨_, h⟩ | ⟨_, h⟩ | ⟨_, _, _, h, _⟩ | ⟨k, v, kvs, h⟩)
  · cases h
  · cases h
  · cases h
  · cases h
  · have h' := HO.dK.inj h
    have hm : (Sum.inr k : Key) ∈ (mkD l).map (·.1) := by rw [h']; simp
    obtain ⟨_, _, e⟩ := (mkD_mem l _).mp hm
    cases e
theorem nmut_frz {C : Addr} {o : Obj} {u : HO} : ¬ Mut C (.frz o u) := by
  rintro (⟨_, h⟩ | ⟨_, h⟩ | ⟨_, h⟩ | ⟨_, _, _, h, _⟩ | ⟨_, _, _, h⟩) <;> cases h
theorem nmut_ins {C dx : Addr} {fs : List (Str × V)} : ¬ Mut C (.ins C dx fs) := by
  rintro (⟨_, h⟩ | ⟨_, h⟩ | ⟨_, h⟩ | ⟨_, _, _, h, n⟩ | ⟨_, _, _, h⟩)
  · cases h
  · cases h
  · cases h
  · cases h; exact n rfl
  · cases h
theorem growF_at {p : Addr} {o : HO} (hp : H p = none) (n : ∀ ps, o ≠ .tbl ps := by intro _ z; cases z) : growF F H (upd H p o) p = some o := by
  rw [growF_new hp (fun ps z => n ps (by rw [upd_same] at z; exact Option.some.inj z)), upd_same]
theorem growF_row (R : RelH B H F) (kp : Kpo B.dO H H') (dd : ∀ d, B.dO = some d → DAt d H') {a : Addr} {r : RV} (h : RowAt B.K B.C H' a r) : RowAt B.K B.C (growF F H H') a r := by
  obtain ⟨dx, p1, p2, p3, p4, I⟩ := h
  have gt : ∀ {p : Addr} {xs : List V}, SqT B.K H' p xs → SqT B.K (growF F H H') p xs := fun h => by
    rcases h with (h | ⟨o, h⟩) | h
    · exact .inl (.inl (growF_get R kp dd h nmut_tup))
    · exact .inl (.inr ⟨o, growF_get R kp dd h nmut_frz⟩)
    · exact .inr h
  exact ⟨dx, p1, p2, p3, p4, ⟨growF_get R kp dd I.ob nmut_ins, gt I.e, gt I.o, growF_get R kp dd I.m nmut_dK, gt I.p, I.rb⟩⟩
end
structure Kq (B : Bs) (σ : L2.St) (H F : Hp) (ρ : Env) (H' F' : Hp) (ρ' : Env) : Prop where
  kp : Kpo B.dO H H'
  nn : ∀ x, H x ≠ none → H' x ≠ none
  ow : ∀ (i : Nat) l, ρ'[i]? = some (.own l) → ∃ l', ρ[i]? = some (.own l')
  pr : ∀ x, H x ≠ none → F x = none → (∀ (i : Nat) l, ρ[i]? = some (.own l) → σ[i]? ≠ some (some (.ref x))) → F' x = none
  mw : ∀ (i : Nat) M fp, ρ'[i]? = some (.mu M fp) → ρ[i]? = some (.mu M fp)
theorem Kq.refl {B : Bs} {σ : L2.St} {H F : Hp} {ρ : Env} : Kq B σ H F ρ H F ρ := ⟨Kpo.refl, fun _ h => h, fun _ l h => ⟨l, h⟩, fun _ _ h _ => h, fun _ _ _ h => h⟩
theorem Kq.trans {B : Bs} {σ : L2.St} {H F H1 F1 H2 F2 : Hp} {ρ ρ1 ρ2 : Env} (a : Kq B σ H F ρ H1 F1 ρ1) (b : Kq B σ H1 F1 ρ1 H2 F2 ρ2) : Kq B σ H F ρ H2 F2 ρ2 :=
  ⟨a.kp.trans b.kp, fun x h => b.nn x (a.nn x h), fun i l h => by
    obtain ⟨m, h1⟩ := b.ow i l h
    exact a.ow i m h1, fun x h1 h2 h3 => b.pr x (a.nn x h1) (a.pr x h1 h2 h3) fun i l h => by
    obtain ⟨m, h4⟩ := a.ow i l h
    exact h3 i m h4, fun i M fp h => a.mw i M fp (b.mw i M fp h)⟩
theorem St1.kq {B : Bs} {σ : L2.St} {H F H' F' : Hp} {ρ : Env} (s : St1 B H F H' F') (R : RelF B H F σ ρ) : Kq B σ H F ρ H' F' ρ :=
  ⟨s.kp, fun x h => s.kp.nn (s.relH R.toRelH) h, fun _ l h => ⟨l, h⟩, fun x h1 h2 _ => s.fz R.toRelH x h1 h2, fun _ _ _ h => h⟩
section
variable {B : Bs} {H F H' F' : Hp} {σ : L2.St} {ρ : Env}
theorem RelF.setG (R : RelF B H F σ ρ) {i : Nat} {x : Option V} {s : Sl} (hv : ∀ d, s = .val d → ∃ v, x = some v ∧ Rep B.K B.C B.dO F v d)
    (ho : ∀ l, s = .own l → ∃ p vs, x = some (.ref p) ∧ B.H0 p = none ∧ F p = none ∧ H p = some (.lst vs) ∧ Reps B.K B.C B.dO F vs l ∧ (∀ (j : Nat) m, j ≠ i → ρ[j]? = some (.own m) → σ[j]? ≠ some (some (.ref p))) ∧ ∀ (j : Nat) M fp, j ≠ i → ρ[j]? = some (.mu M fp) → p ∉ fp) (hm : ∀ M fp, s ≠ .mu M fp) : RelF B H F (σ.set i x) (ρ.set i s) := by
  have hl := R.len
  have wasM : ∀ (j : Nat) M fp, (ρ.set i s)[j]? = some (.mu M fp) → j ≠ i ∧ ρ[j]? = some (.mu M fp) := fun j M fp e => by
    rw [List.getElem?_set] at e
    by_cases c : i = j
    · rw [if_pos c] at e
      split at e
      · exact absurd (Option.some.inj e) (hm M fp)
      · cases e
    · rw [if_neg c] at e; exact ⟨fun z => c z.symm, e⟩
  refine ⟨R.toRelH, by rw [List.length_set, List.length_set]; exact R.len, fun j d e => ?_, fun j l e => ?_, fun j k l m p e1 e2 h1 h2 => ?_, fun j M fp e => ?_, fun j k M fp l p e1 e2 h1 => ?_, fun j k M N fp gp y n e1 e2 => R.mm j k M N fp gp y n (wasM j M fp e1).2 (wasM k N gp e2).2⟩
  · rw [List.getElem?_set] at e ⊢
    by_cases c : i = j
    · rw [if_pos c] at e ⊢
      split at e
      · obtain ⟨v, a, b⟩ := hv d (Option.some.inj e)
        rw [if_pos (by omega), a]; exact ⟨v, rfl, b⟩
      · cases e
    · rw [if_neg c] at e ⊢
      exact R.val j d e
  · rw [List.getElem?_set] at e ⊢
    by_cases c : i = j
    · rw [if_pos c] at e ⊢
      split at e
      · obtain ⟨p, vs, a, b, g, f, k, _⟩ := ho l (Option.some.inj e)
        rw [if_pos (by omega), a]; exact ⟨p, vs, rfl, b, g, f, k⟩
      · cases e
    · rw [if_neg c] at e ⊢
      exact R.own j l e
  · rw [List.getElem?_set] at e1 e2 h1 h2
    by_cases c1 : i = j
    · by_cases c2 : i = k
      · omega
      · rw [if_pos c1] at e1 h1
        rw [if_neg c2] at e2 h2
        split at e1
        · obtain ⟨p', vs, a, _, _, _, _, nq, _⟩ := ho l (Option.some.inj e1)
          rw [if_pos (by omega), a] at h1
          cases h1
          exact absurd h2 (nq k m (fun z => c2 z.symm) e2)
        · cases e1
    · by_cases c2 : i = k
      · rw [if_neg c1] at e1 h1
        rw [if_pos c2] at e2 h2
        split at e2
        · obtain ⟨p', vs, a, _, _, _, _, nq, _⟩ := ho m (Option.some.inj e2)
          rw [if_pos (by omega), a] at h2
          cases h2
          exact absurd h1 (nq j l (fun z => c1 z.symm) e1)
        · cases e2
      · rw [if_neg c1] at e1 h1
        rw [if_neg c2] at e2 h2
        exact R.inj j k l m p e1 e2 h1 h2
  · obtain ⟨nj, e⟩ := wasM j M fp e
    obtain ⟨p, a, b⟩ := R.mu j M fp e
    exact ⟨p, by rw [List.getElem?_set, if_neg fun z => nj z.symm]; exact a, b⟩
  · obtain ⟨nj, e1⟩ := wasM j M fp e1
    rw [List.getElem?_set] at e2 h1
    by_cases c : i = k
    · rw [if_pos c] at e2 h1
      split at e2
      · obtain ⟨p', vs, a, _, _, _, _, _, nm⟩ := ho l (Option.some.inj e2)
        rw [if_pos (by omega), a] at h1
        cases h1
        exact nm j M fp nj e1
      · cases e2
    · rw [if_neg c] at e2 h1
      exact R.mo j k M fp l p e1 e2 h1
theorem RelF.setV (R : RelF B H F σ ρ) {i : Nat} {v : V} {d : D} (h : Rep B.K B.C B.dO F v d) : RelF B H F (σ.set i (some v)) (ρ.set i (.val d)) :=
  R.setG (fun d' e => by cases e; exact ⟨v, rfl, h⟩) (fun l e => nomatch e) (fun _ _ e => nomatch e)
theorem RelF.setN (R : RelF B H F σ ρ) {i : Nat} {x : Option V} : RelF B H F (σ.set i x) (ρ.set i .no) :=
  R.setG (fun d' e => nomatch e) (fun l e => nomatch e) (fun _ _ e => nomatch e)
theorem set_self {α : Type} {l : List α} {i : Nat} {a : α} (h : l[i]? = some a) : l.set i a = l := by
  apply List.ext_getElem?
  intro j
  rw [List.getElem?_set]
  split
  · rename_i c
    subst c
    split
    · exact h.symm
    · rw [List.getElem?_eq_none (by omega)]
  · rfl
theorem RelF.frz (R : RelF B H F σ ρ) {i : Nat} {l : List D} (h : ρ[i]? = some (.own l)) : ∃ F' p, Ex F F' ∧ σ[i]? = some (some (.ref p)) ∧ Rep B.K B.C B.dO F' (.ref p) (.lst l) ∧ RelF B H F' σ (ρ.set i (.val (.lst l))) ∧ ∀ x, x ≠ p → F' x = F x := by
  obtain ⟨p, vs, a, b, c, d, g⟩ := R.own i l h
  have ex : Ex F (upd F p (.lst vs)) := Ex.new c
  have rp : Rep B.K B.C B.dO (upd F p (.lst vs)) (.ref p) (.lst l) := .lst upd_same (g.ex ex)
  refine ⟨upd F p (.lst vs), p, ex, a, rp, ?_, fun x hx => upd_ne hx⟩
  have R1 : RelF B H (upd F p (.lst vs)) σ (ρ.set i .no) := by
    have R0 := R.setN (i := i) (x := some (.ref p))
    rw [set_self a] at R0
    refine ⟨⟨fun x o e => ?_, R.ff.trans ex, fun x h1 h2 => ?_, fun x o h1 h2 => ?_, R.kp, R.hd, fun d' e => ⟨(R.dd d' e).1, ?_⟩, R.tb, fun q hq => ?_, fun x ps e => ?_, R.ht⟩, R0.len, fun j d' e => ?_, fun j m e => ?_, R0.inj, fun j M fp e => ?_, R0.mo, R0.mm⟩
    · by_cases cx : x = p
      · rw [cx, upd_same] at e; rw [cx, d]; exact e
      · rw [upd_ne cx] at e; exact R.fh x o e
    · have : x ≠ p := fun z => h1 (by rw [z]; exact b)
      rw [upd_ne this]; exact R.f0 x h1 h2
    · have : x ≠ p := fun z => by rw [z, upd_same] at h2; cases h2
      rw [upd_ne this] at h2; exact R.lk x o h1 h2
    · have : d' ≠ p := fun z => R.hd d' e (by rw [z]; exact b)
      rw [upd_ne this]; exact (R.dd d' e).2
    · have : q.1 ≠ p := fun z => by
        obtain ⟨ps, e, _⟩ := R.tb q hq
        rw [z, d] at e; cases e
      rw [upd_ne this]; exact R.tz q hq
    · by_cases cx : x = p
      · rw [cx, upd_same] at e; cases e
      · rw [upd_ne cx] at e; exact R.nt x ps e
    · obtain ⟨v, q, r⟩ := R0.val j d' e
      exact ⟨v, q, r.ex ex⟩
    · obtain ⟨q, ws, q1, q2, q3, q4, q5⟩ := R0.own j m e
      have : q ≠ p := fun z => by
        subst z
        rw [List.getElem?_set] at e
        by_cases cj : i = j
        · rw [if_pos cj] at e; split at e <;> cases e
        · rw [if_neg cj] at e
          exact cj (R.inj i j l m q h e a q1)
      exact ⟨q, ws, q1, q2, by rw [upd_ne this]; exact q3, q4, q5.ex ex⟩
    · obtain ⟨q, q1, q2, q3⟩ := R0.mu j M fp e
      refine ⟨q, q1, M.st q2 (fun _ _ => rfl) ex, fun x hx => ?_⟩
      obtain ⟨c1, c2, c3⟩ := q3 x hx
      have nji : j ≠ i := fun z => by
        rw [z, List.getElem?_set, if_pos rfl] at e
        split at e <;> cases e
      have e' : ρ[j]? = some (.mu M fp) := by rw [List.getElem?_set, if_neg fun z => nji z.symm] at e; exact e
      have : x ≠ p := fun z => R.mo j i M fp l p e' h a (by rw [← z]; exact hx)
      exact ⟨c1, by rw [upd_ne this]; exact c2, c3⟩
  have R2 := R1.setV (i := i) rp
  rw [set_self a, List.set_set] at R2
  exact R2
end
def Fre (σ : L2.St) (ρ : Env) (p : Addr) : Prop := (∀ (i : Nat) l, ρ[i]? = some (.own l) → σ[i]? ≠ some (some (.ref p))) ∧ ∀ (i : Nat) M fp, ρ[i]? = some (.mu M fp) → p ∉ fp
theorem tabs_upd {T : List (Addr × Str)} {H : Hp} {p : Addr} {l : List V} {o : HO} (t : LamX.Tabs T H) (h : H p = none ∨ H p = some (.lst l)) : LamX.Tabs T (upd H p o) := fun q hq => by
  obtain ⟨ps, h1, h2, h3⟩ := t q hq
  have ne : ∀ {x : Addr} {u : HO}, H x = some u → (∀ l, u ≠ .lst l) → x ≠ p := fun e n z => by
    rw [z] at e
    rcases h with h | h <;> rw [h] at e
    · cases e
    · exact n _ (Option.some.inj e).symm
  refine ⟨ps, by rw [upd_ne (ne h1 fun _ z => nomatch z)]; exact h1, h2, fun pos cv hc => ?_⟩
  obtain ⟨c, e1, e2⟩ := h3 pos cv hc
  exact ⟨c, e1, by rw [upd_ne (ne e2 fun _ z => by unfold LamX.CodeO at z; cases z)]; exact e2⟩
theorem upd_nt {F : Hp} {p : Addr} {l : List V} (n : ∀ x ps, F x ≠ some (.tbl ps)) (x : Addr) (ps : Array Value) : upd F p (.lst l) x ≠ some (.tbl ps) := fun e => by
  by_cases cx : x = p
  · rw [cx, upd_same] at e; cases e
  · rw [upd_ne cx] at e; exact n x ps e
theorem RelF.lam {B : Bs} {H F H' : Hp} {σ : L2.St} {ρ : Env} (R : RelF B H F σ ρ) (hT : B.T ≠ []) (e : LamX.ExtN H H') (t : LamX.Tabs B.T H') : ∃ F', Ex F F' ∧ RelF B H' F' σ ρ := by
  have ex : Ex F (growF F H H') := fun x o h => by
    have n : ∀ ps, o ≠ .tbl ps := fun ps z => R.nt x ps (by rw [h, z])
    have h' := e x o (R.fh x o h) n
    rw [growF_some (by rw [h]; exact Option.some_ne_none _) fun ps z => by rw [h'] at z; exact n ps (Option.some.inj z)]
    exact h'
  have keep : ∀ {x : Addr} {o : HO}, H x = some o → (∀ ps, o ≠ .tbl ps) → F x = none → growF F H H' x = none := fun {x o} h n f => by
    unfold growF
    rw [if_pos (.inl ⟨by rw [h]; exact Option.some_ne_none _, f, fun ps z => by rw [h] at z; exact n ps (Option.some.inj z)⟩)]
  refine ⟨growF F H H', ex, ⟨growF_ex, R.ff.trans ex, fun x a b => ?_, fun x o h g => ?_, fun x o n q h => ?_, R.hd, fun d hd => ?_, t, fun p hp => ?_, growF_nt, R.ht⟩, R.len, fun i d h => ?_, fun i l h => ?_, R.inj, fun i M fp h => ?_, R.mo, R.mm⟩
  · by_cases c : ∃ q, (x, q) ∈ B.T
    · obtain ⟨q, hq⟩ := c
      obtain ⟨ps, z, _⟩ := t _ hq
      unfold growF
      rw [if_pos (.inr ⟨ps, z⟩)]
    · cases h0 : B.H0 x with
      | none => exact absurd h0 a
      | some o =>
        have n : ∀ ps, o ≠ .tbl ps := fun ps z => c (R.ht hT x ps (by rw [h0, z]))
        by_cases cd : some x = B.dO
        · obtain ⟨ds, z, _⟩ := (R.dd x cd.symm).1
          exact keep z (fun _ z => nomatch z) (R.f0 x a b)
        · exact keep (R.kp x o cd (fun q z => c ⟨q, z⟩) h0) n (R.f0 x a b)
  · by_cases c : ∃ ps, H' x = some (.tbl ps)
    · obtain ⟨ps, c⟩ := c
      rw [h] at c
      exact .inr (.inl ⟨ps, Option.some.inj c⟩)
    · unfold growF at g
      split at g
      · rename_i z
        rcases z with ⟨z1, z2, z3⟩ | z
        · cases hu : H x with
          | none => exact absurd hu z1
          | some u =>
            have n : ∀ ps, u ≠ .tbl ps := fun ps z => z3 ps (by rw [hu, z])
            have := e x u hu n
            rw [h] at this
            have eo : o = u := Option.some.inj this
            rw [eo]
            exact R.lk x u hu z2
        · exact absurd z c
      · rw [h] at g; cases g
  · exact e x o (R.kp x o n q h) fun ps z => by
      obtain ⟨q', hq⟩ := R.ht hT x ps (by rw [h, z])
      exact q q' hq
  · obtain ⟨⟨ds, a1, a2⟩, a3⟩ := R.dd d hd
    exact ⟨⟨ds, e d _ a1 (fun _ z => nomatch z), a2⟩, keep a1 (fun _ z => nomatch z) a3⟩
  · obtain ⟨ps, z, _⟩ := t p hp
    unfold growF
    rw [if_pos (.inr ⟨ps, z⟩)]
  · obtain ⟨v, a, b⟩ := R.val i d h
    exact ⟨v, a, b.ex ex⟩
  · obtain ⟨p, vs, a, b, c, d, g⟩ := R.own i l h
    exact ⟨p, vs, a, b, keep d (fun _ z => nomatch z) c, e p _ d (fun _ z => nomatch z), g.ex ex⟩
  · obtain ⟨p, a, b, c⟩ := R.mu i M fp h
    have kp : ∀ x ∈ fp, H' x = H x := fun x hx => by
      obtain ⟨c1, c2, o, c3, c4⟩ := c x hx
      rw [c3]; exact e x o c3 c4
    refine ⟨p, a, M.st b kp ex, fun x hx => ?_⟩
    obtain ⟨c1, c2, o, c3, c4⟩ := c x hx
    exact ⟨c1, keep c3 c4 c2, o, by rw [kp x hx]; exact c3, c4⟩
end TkL


namespace TkL
open PySem PySem.Spec PySem.Calls PyProof.Rows L2 Tk
abbrev UE := Env → (D → Env → Prop) → Prop
abbrev UT := Env → (Bool → Env → Prop) → Prop
abbrev UA := Env → (List D → Env → Prop) → Prop
abbrev U2 := D → D → (D → Prop) → Prop
abbrev UP := List D → (D → Prop) → Prop
abbrev tPer (i : Nat) : TE := tVar i
def RepW (B : Bs) (F H : Hp) (v : V) : D → Prop
  | .lst l => ∃ p vs, v = .ref p ∧ some p ≠ B.dO ∧ H p = some (.lst vs) ∧ Reps B.K B.C B.dO F vs l
  | .dct ks l => ∃ p vs, v = .ref p ∧ some p ≠ B.dO ∧ H p = some (.dK ((ks.map Sum.inr).zip vs)) ∧ ks.length = vs.length ∧ Reps B.K B.C B.dO F vs l
  | d => Rep B.K B.C B.dO F v d
inductive RepsW (B : Bs) (F H : Hp) : List V → List D → Prop
  | nil : RepsW B F H [] []
  | cons {v d vs ds} : RepW B F H v d → RepsW B F H vs ds → RepsW B F H (v :: vs) (d :: ds)
section
variable {B : Bs} {H F H' F' : Hp} {σ : L2.St} {ρ : Env}
theorem RepW.kp {v : V} {d : D} (e : Ex F F') (k : Kpo B.dO H H') (h : RepW B F H v d) : RepW B F' H' v d := by
  cases d with
  | lst l =>
    obtain ⟨p, vs, a, b, c, g⟩ := h
    exact ⟨p, vs, a, b, k p _ b c, g.ex e⟩
  | dct ks l =>
    obtain ⟨p, vs, a, b, c, n, g⟩ := h
    exact ⟨p, vs, a, b, k p _ b c, n, g.ex e⟩
  | _ => exact Rep.ex e h
theorem RepsW.kp : ∀ {vs : List V} {ds : List D} (e : Ex F F') (k : Kpo B.dO H H') (h : RepsW B F H vs ds), RepsW B F' H' vs ds
  | _, _, _, _, .nil => .nil
  | _, _, e, k, .cons a t => .cons (a.kp e k) (t.kp e k)
theorem Rep.w {v : V} {d : D} (R : RelH B H F) (h : Rep B.K B.C B.dO F v d) : RepW B F H v d := by
  cases h with
  | lst h r => exact ⟨_, _, rfl, R.dF (by rw [h]; exact Option.some_ne_none _), R.fh _ _ h, r⟩
  | int => exact .int
  | bl => exact .bl
  | str => exact .str
  | non => exact .non
  | cls => exact .cls
  | src h => exact .src h
  | tup h r => exact .tup h r
  | row h => exact .row h
  | mrk h => exact .mrk h
  | dct h l r => exact ⟨_, _, rfl, R.dF (by rw [h]; exact Option.some_ne_none _), R.fh _ _ h, l, r⟩
theorem Reps.w (R : RelH B H F) : ∀ {vs : List V} {ds : List D}, Reps B.K B.C B.dO F vs ds → RepsW B F H vs ds
  | _, _, .nil => .nil
  | _, _, .cons a t => .cons (a.w R) (t.w R)
end
def SimE (B : Bs) (t : TE) (u : UE) : Prop := ∀ H F σ ρ (Q : VK) (P : D → Env → Prop), RelF B H F σ ρ → u ρ P →
  (∀ H' F' v d ρ', Ex F F' → Kq B σ H F ρ H' F' ρ' → RelF B H' F' σ ρ' → Rep B.K B.C B.dO F' v d → P d ρ' → Q v H') → t σ H Q
def SimW (B : Bs) (t : TE) (u : UE) : Prop := ∀ H F σ ρ (Q : VK) (P : D → Env → Prop), RelF B H F σ ρ → u ρ P →
  (∀ H' F' v d ρ', Ex F F' → Kq B σ H F ρ H' F' ρ' → RelF B H' F' σ ρ' → RepW B F' H' v d → P d ρ' → Q v H') → t σ H Q
def SimN (B : Bs) (t : TE) (u : UE) : Prop := ∀ H F σ ρ (Q : VK) (P : D → Env → Prop), RelF B H F σ ρ → u ρ P →
  (∀ H' F' p vs l ρ', Ex F F' → Kq B σ H F ρ H' F' ρ' → RelF B H' F' σ ρ' → H p = none → Fre σ ρ' p → F' p = none → H' p = some (.lst vs) → Reps B.K B.C B.dO F' vs l → P (.lst l) ρ' → Q (.ref p) H') → t σ H Q
def SimT (B : Bs) (t : TT) (u : UT) : Prop := ∀ H F σ ρ (Q : Bool → Hp → Prop) (P : Bool → Env → Prop), RelF B H F σ ρ → u ρ P →
  (∀ H' F' c ρ', Ex F F' → Kq B σ H F ρ H' F' ρ' → RelF B H' F' σ ρ' → P c ρ' → Q c H') → t σ H Q
def SimA (B : Bs) (t : TA) (u : UA) : Prop := ∀ H F σ ρ (Q : List V → Hp → Prop) (P : List D → Env → Prop), RelF B H F σ ρ → u ρ P →
  (∀ H' F' v d ρ', Ex F F' → Kq B σ H F ρ H' F' ρ' → RelF B H' F' σ ρ' → RepsW B F' H' v d → P d ρ' → Q v H') → t σ H Q
def SimP (B : Bs) (t : TA) (u : UA) : Prop := ∀ H F σ ρ (Q : List V → Hp → Prop) (P : List D → Env → Prop), RelF B H F σ ρ → u ρ P →
  (∀ H' F' v d ρ', Ex F F' → Kq B σ H F ρ H' F' ρ' → RelF B H' F' σ ρ' → Reps B.K B.C B.dO F' v d → P d ρ' → Q v H') → t σ H Q
def Sim2 (B : Bs) (r : R2) (q : U2) : Prop := ∀ H F x y dx dy (Q : VK) (P : D → Prop), RelH B H F → RepW B F H x dx → RepW B F H y dy → q dx dy P →
  (∀ H' F' v d, St1 B H F H' F' → Rep B.K B.C B.dO F' v d → P d → Q v H') → r x y H Q
def Sim2N (B : Bs) (r : R2) (q : U2) : Prop := ∀ H F x y dx dy (Q : VK) (P : D → Prop), RelH B H F → RepW B F H x dx → RepW B F H y dy → q dx dy P →
  (∀ H' F' p vs l, St1 B H F H' F' → H p = none → F' p = none → H' p = some (.lst vs) → Reps B.K B.C B.dO F' vs l → P (.lst l) → Q (.ref p) H') → r x y H Q
def SimK (B : Bs) (k : List V → Hp → VK → Prop) (g : UP) : Prop := ∀ H F vs ds (Q : VK) (P : D → Prop), RelH B H F → RepsW B F H vs ds → g ds P →
  (∀ H' F' v d, St1 B H F H' F' → Rep B.K B.C B.dO F' v d → P d → Q v H') → k vs H Q
def SimKN (B : Bs) (k : List V → Hp → VK → Prop) (g : UP) : Prop := ∀ H F vs ds (Q : VK) (P : D → Prop), RelH B H F → RepsW B F H vs ds → g ds P →
  (∀ H' F' p vs l, St1 B H F H' F' → H p = none → F' p = none → H' p = some (.lst vs) → Reps B.K B.C B.dO F' vs l → P (.lst l) → Q (.ref p) H') → k vs H Q
def uC (d : D) : UE := fun ρ P => P d ρ
def uVar (i : Nat) : UE := fun ρ P => match ρ[i]? with | some (.val d) => P d ρ | some (.own l) => P (.lst l) ρ | _ => False
def uPer (i : Nat) : UE := fun ρ P => match ρ[i]? with | some (.val d) => P d ρ | some (.own l) => P (.lst l) (ρ.set i (.val (.lst l))) | _ => False
def uOp (q : U2) (a b : UE) : UE := fun ρ P => a ρ fun x ρ1 => b ρ1 fun y ρ2 => q x y fun z => P z ρ2
def uUn (q : D → (D → Prop) → Prop) (a : UE) : UE := fun ρ P => a ρ fun x ρ1 => q x fun z => P z ρ1
def uNil : UA := fun ρ P => P [] ρ
def uCons (a : UE) (b : UA) : UA := fun ρ P => a ρ fun x ρ1 => b ρ1 fun xs ρ2 => P (x :: xs) ρ2
def uCB (g : UP) (a : UA) : UE := fun ρ P => a ρ fun xs ρ1 => g xs fun z => P z ρ1
def uIf (c : UT) (a b : UE) : UE := fun ρ P => c ρ fun k ρ1 => if k = true then a ρ1 P else b ρ1 P
def uAndV (a b : UE) : UE := fun ρ P => a ρ fun x ρ1 => ∃ c, x = .bl c ∧ if c = true then b ρ1 P else P (.bl false) ρ1
def uOrV (a b : UE) : UE := fun ρ P => a ρ fun x ρ1 => ∃ c, x = .bl c ∧ if c = true then P (.bl true) ρ1 else b ρ1 P
def uNotV (a : UE) : UE := fun ρ P => a ρ fun x ρ1 => ∃ c, x = .bl c ∧ P (.bl (!c)) ρ1
def uB (a : UE) : UT := fun ρ P => a ρ fun x ρ1 => ∃ c, x = .bl c ∧ P c ρ1
def uAnd (a b : UT) : UT := fun ρ P => a ρ fun c ρ1 => if c = true then b ρ1 P else P false ρ1
def uOr (a b : UT) : UT := fun ρ P => a ρ fun c ρ1 => if c = true then P true ρ1 else b ρ1 P
def uNot (a : UT) : UT := fun ρ P => a ρ fun c ρ1 => P (!c) ρ1
def uChain (q q' : U2) (a b c : UE) : UE := fun ρ P => a ρ fun x ρ1 => b ρ1 fun y ρ2 => q x y fun z => ∃ k, z = .bl k ∧ if k = true then c ρ2 fun w ρ3 => q' y w fun z => P z ρ3 else P (.bl false) ρ2
def uTup (a : UA) : UE := fun ρ P => a ρ fun xs ρ1 => xs.length ≤ 1000000 ∧ P (.tup xs) ρ1
def uLst (a : UA) : UE := fun ρ P => a ρ fun xs ρ1 => xs.length ≤ 1000000 ∧ P (.lst xs) ρ1
section
variable {B : Bs} {t ta tb tc : TE} {u ua ub uc : UE} {tt tt' : TT} {ut ut' : UT} {A : TA} {U : UA}
theorem SimE.w (h : SimE B t u) : SimW B t u := fun H F σ ρ Q P R hu k => h H F σ ρ Q P R hu fun H' F' v d ρ' e kp R' rp p => k H' F' v d ρ' e kp R' (rp.w R'.toRelH) p
theorem RelF.frzN {H F : Hp} {σ : L2.St} {ρ : Env} (R : RelF B H F σ ρ) {p : Addr} {vs : List V} (h0 : B.H0 p = none) (hn : Fre σ ρ p) (hF : F p = none) (hH : H p = some (.lst vs)) : Ex F (upd F p (.lst vs)) ∧ RelF B H (upd F p (.lst vs)) σ ρ := by
  have ex : Ex F (upd F p (.lst vs)) := Ex.new hF
  refine ⟨ex, ⟨⟨fun x o e => ?_, R.ff.trans ex, fun x h1 h2 => ?_, fun x o h1 h2 => ?_, R.kp, R.hd, fun d' e => ⟨(R.dd d' e).1, ?_⟩, R.tb, fun q hq => ?_, upd_nt R.nt, R.ht⟩, R.len, fun j d' e => ?_, fun j m e => ?_, R.inj, fun j M fp e => ?_, R.mo, R.mm⟩⟩
  · by_cases cx : x = p
    · rw [cx, upd_same] at e; rw [cx, hH]; exact e
    · rw [upd_ne cx] at e; exact R.fh x o e
  · have : x ≠ p := fun z => h1 (by rw [z]; exact h0)
    rw [upd_ne this]; exact R.f0 x h1 h2
  · have : x ≠ p := fun z => by rw [z, upd_same] at h2; cases h2
    rw [upd_ne this] at h2; exact R.lk x o h1 h2
  · have : d' ≠ p := fun z => R.hd d' e (by rw [z]; exact h0)
    rw [upd_ne this]; exact (R.dd d' e).2
  · have : q.1 ≠ p := fun z => by
      obtain ⟨ps, e, _⟩ := R.tb q hq
      rw [z, hH] at e; cases e
    rw [upd_ne this]; exact R.tz q hq
  · obtain ⟨v, q, r⟩ := R.val j d' e
    exact ⟨v, q, r.ex ex⟩
  · obtain ⟨q, ws, q1, q2, q3, q4, q5⟩ := R.own j m e
    have : q ≠ p := fun z => by
      subst z
      exact hn.1 j m e q1
    exact ⟨q, ws, q1, q2, by rw [upd_ne this]; exact q3, q4, q5.ex ex⟩
  · obtain ⟨q, q1, q2, q3⟩ := R.mu j M fp e
    refine ⟨q, q1, M.st q2 (fun _ _ => rfl) ex, fun x hx => ?_⟩
    obtain ⟨c1, c2, c3⟩ := q3 x hx
    have : x ≠ p := fun z => hn.2 j M fp e (by rw [← z]; exact hx)
    exact ⟨c1, by rw [upd_ne this]; exact c2, c3⟩
theorem RelF.fresh {H H' F F' : Hp} {σ : L2.St} {ρ : Env} (R : RelF B H F σ ρ) (_R' : RelF B H' F' σ ρ) {p : Addr} (hp : H p = none) (_hρ : ∀ (i : Nat) (l : List D), ρ[i]? = some (.own l) → ρ[i]? = some (.own l)) : Fre σ ρ p := ⟨fun i l e z => by
  obtain ⟨q, vs, a, _, _, d, _⟩ := R.own i l e
  rw [z] at a
  cases a
  rw [hp] at d
  exact absurd d (by simp), fun i M fp e z => by
  obtain ⟨q, a, b, c⟩ := R.mu i M fp e
  obtain ⟨_, _, o, d, _⟩ := c p z
  rw [hp] at d
  exact absurd d (by simp)⟩
theorem sE_c {v : V} {d : D} (h : ∀ F, Rep B.K B.C B.dO F v d) : SimE B (tC v) (uC d) := fun H F σ ρ Q P R hu k => k H F v d ρ (Ex.refl _) Kq.refl R (h F) hu
theorem sE_int {i : Int} : SimE B (tC (.int i)) (uC (.int i)) := sE_c fun _ => .int
theorem sE_bl {i : Bool} : SimE B (tC (.bl i)) (uC (.bl i)) := sE_c fun _ => .bl
theorem sE_str {i : Str} : SimE B (tC (.str i)) (uC (.str i)) := sE_c fun _ => .str
theorem sE_non : SimE B (tC .non) (uC .non) := sE_c fun _ => .non
theorem sE_cls : SimE B (tC (.ref B.C)) (uC .cls) := sE_c fun _ => .cls
theorem sW_var {i : Nat} : SimW B (tVar i) (uVar i) := fun H F σ ρ Q P R hu k => by
  unfold uVar at hu
  cases e : ρ[i]? with
  | none => rw [e] at hu; exact hu.elim
  | some s =>
    rw [e] at hu
    cases s with
    | no => exact hu.elim
    | mu M fp => exact hu.elim
    | val d =>
      obtain ⟨v, a, b⟩ := R.val i d e
      exact ⟨v, a, k H F v d ρ (Ex.refl _) Kq.refl R (b.w R.toRelH) hu⟩
    | own l =>
      obtain ⟨p, vs, a, b, c, d, g⟩ := R.own i l e
      exact ⟨_, a, k H F _ (.lst l) ρ (Ex.refl _) Kq.refl R ⟨p, vs, rfl, R.d0 b, d, g⟩ hu⟩
theorem sE_per {i : Nat} : SimE B (tVar i) (uPer i) := fun H F σ ρ Q P R hu k => by
  unfold uPer at hu
  cases e : ρ[i]? with
  | none => rw [e] at hu; exact hu.elim
  | some s =>
    rw [e] at hu
    cases s with
    | no => exact hu.elim
    | mu M fp => exact hu.elim
    | val d =>
      obtain ⟨v, a, b⟩ := R.val i d e
      exact ⟨v, a, k H F v d ρ (Ex.refl _) Kq.refl R b hu⟩
    | own l =>
      obtain ⟨F', p, ex, a, b, c, nx⟩ := R.frz e
      refine ⟨_, a, k H F' _ (.lst l) _ ex ⟨Kpo.refl, fun _ h => h, fun j m h => ?_, fun x h1 h2 h3 => ?_, fun j M fp h => ?_⟩ c b hu⟩
      · rw [List.getElem?_set] at h
        by_cases cj : i = j
        · rw [if_pos cj] at h; split at h <;> cases h
        · rw [if_neg cj] at h; exact ⟨m, h⟩
      · rw [nx x fun z => by subst z; exact h3 i l e a]; exact h2
      · rw [List.getElem?_set] at h
        by_cases cj : i = j
        · rw [if_pos cj] at h; split at h <;> cases h
        · rw [if_neg cj] at h; exact h
theorem sE_op {r : R2} {q : U2} (h : Sim2 B r q) (ha : SimW B ta ua) (hb : SimW B tb ub) : SimE B (tOp r ta tb) (uOp q ua ub) := fun H F σ ρ Q P R hu k =>
  ha H F σ ρ _ _ R hu fun H1 F1 x dx ρ1 e1 k1 R1 r1 p1 => hb H1 F1 σ ρ1 _ _ R1 p1 fun H2 F2 y dy ρ2 e2 k2 R2 r2 p2 =>
    h H2 F2 x y dx dy _ _ R2.toRelH (r1.kp e2 k2.kp) r2 p2 fun H3 F3 v d s rp p3 => k H3 F3 v d ρ2 (e1.trans (e2.trans s.ex)) (k1.trans (k2.trans (s.kq R2))) (s.rel _ _ R2) rp p3
theorem sA_nil : SimA B tNil uNil := fun H F σ ρ Q P R hu k => k H F [] [] ρ (Ex.refl _) Kq.refl R .nil hu
theorem sA_cons (ha : SimW B ta ua) (hA : SimA B A U) : SimA B (tCons ta A) (uCons ua U) := fun H F σ ρ Q P R hu k =>
  ha H F σ ρ _ _ R hu fun H1 F1 x dx ρ1 e1 k1 R1 r1 p1 => hA H1 F1 σ ρ1 _ _ R1 p1 fun H2 F2 y dy ρ2 e2 k2 R2 r2 p2 =>
    k H2 F2 _ _ ρ2 (e1.trans e2) (k1.trans k2) R2 (.cons (r1.kp e2 k2.kp) r2) p2
theorem sP_nil : SimP B tNil uNil := fun H F σ ρ Q P R hu k => k H F [] [] ρ (Ex.refl _) Kq.refl R .nil hu
theorem sP_cons (ha : SimE B ta ua) (hA : SimP B A U) : SimP B (tCons ta A) (uCons ua U) := fun H F σ ρ Q P R hu k =>
  ha H F σ ρ _ _ R hu fun H1 F1 x dx ρ1 e1 k1 R1 r1 p1 => hA H1 F1 σ ρ1 _ _ R1 p1 fun H2 F2 y dy ρ2 e2 k2 R2 r2 p2 =>
    k H2 F2 _ _ ρ2 (e1.trans e2) (k1.trans k2) R2 (.cons (r1.ex e2) r2) p2
theorem sE_cb {r : List V → Hp → VK → Prop} {g : UP} (h : SimK B r g) (hA : SimA B A U) : SimE B (tCB r A) (uCB g U) := fun H F σ ρ Q P R hu k =>
  hA H F σ ρ _ _ R hu fun H1 F1 x dx ρ1 e1 k1 R1 r1 p1 => h H1 F1 x dx _ _ R1.toRelH r1 p1 fun H3 F3 v d s rp p3 => k H3 F3 v d ρ1 (e1.trans s.ex) (k1.trans (s.kq R1)) (s.rel _ _ R1) rp p3
theorem Kpo.back {dO : Option Addr} {H H' : Hp} (k : Kpo dO H H') {p : Addr} (n : some p ≠ dO) (h : H' p = none) : H p = none := by
  cases e : H p with
  | none => rfl
  | some o => rw [k p o n e] at h; cases h
theorem RelH.nd {H F : Hp} (R : RelH B H F) {p : Addr} (h : H p = none) : some p ≠ B.dO := fun z => by
  have := (R.dd p z.symm).1.some
  exact this h
theorem frz_new {H F H' F' : Hp} (R : RelH B H F) (s : St1 B H F H' F') {p : Addr} {vs : List V} (hp : H p = none) (hF : F' p = none) (hH : H' p = some (.lst vs)) : St1 B H F H' (upd F' p (.lst vs)) := by
  have R' := s.relH R
  have ex : Ex F' (upd F' p (.lst vs)) := Ex.new hF
  refine St1.mk' R s.kp (fun d e => (R'.dd d e).1) (s.ex.trans ex) (fun x o e => ?_) (fun x h1 h2 => ?_) (fun x o h1 h2 => ?_) ?_
  · by_cases cx : x = p
    · rw [cx, upd_same] at e; rw [cx, hH]; exact e
    · rw [upd_ne cx] at e; exact R'.fh x o e
  · have : x ≠ p := fun z => h1 (by rw [z]; exact hp)
    rw [upd_ne this]
    exact s.fz R x h1 h2
  · have : x ≠ p := fun z => by rw [z, upd_same] at h2; cases h2
    rw [upd_ne this] at h2; exact R'.lk x o h1 h2
  · exact upd_nt R'.nt
theorem Sim2N.s {r : R2} {q : U2} (h : Sim2N B r q) : Sim2 B r q := fun H F x y dx dy Q P R rx ry hq k => h H F x y dx dy Q P R rx ry hq fun H' F' p vs l s hp hF hH rp hP =>
  k H' _ _ _ (frz_new R s hp hF hH) (.lst upd_same (rp.ex (Ex.new hF))) hP
theorem SimKN.s {r : List V → Hp → VK → Prop} {g : UP} (h : SimKN B r g) : SimK B r g := fun H F vs ds Q P R rx hq k => h H F vs ds Q P R rx hq fun H' F' p vs l s hp hF hH rp hP =>
  k H' _ _ _ (frz_new R s hp hF hH) (.lst upd_same (rp.ex (Ex.new hF))) hP
theorem SimN.e (h : SimN B t u) : SimE B t u := fun H F σ ρ Q P R hu k => h H F σ ρ Q P R hu fun H' F' p vs l ρ' e kp R' hp hn hF hH rp hP => by
  obtain ⟨e1, R1⟩ := R'.frzN (R.toRelH.n0 hp) hn hF hH
  refine k H' _ _ _ ρ' (e.trans e1) ⟨kp.kp, kp.nn, kp.ow, fun x h1 h2 h3 => ?_, kp.mw⟩ R1 (.lst upd_same (rp.ex e1)) hP
  rw [upd_ne fun z => h1 (by rw [z]; exact hp)]
  exact kp.pr x h1 h2 h3
end
end TkL


namespace TkL
open PySem PySem.Spec PySem.Calls PyProof.Rows L2 Tk
def toV : D → Option V
  | .int i => some (.int i) | .bl b => some (.bl b) | .str s => some (.str s) | .non => some .non | _ => none
def isNonD : D → Bool
  | .non => true
  | _ => false
def toVs : List D → Option (List V)
  | [] => some []
  | d :: ds => match toV d, toVs ds with | some v, some vs => some (v :: vs) | _, _ => none
section
variable {B : Bs} {H F : Hp}
theorem Rep.toV {K : PySem.W.Frag} {C : Addr} {dO : Option Addr} {v w : V} {d : D} (h : Rep K C dO F v d) (e : toV d = some w) : v = w := by
  cases h <;> first | (exact Option.some.inj e) | (exact absurd e (by intro z; cases z))
theorem RepW.toV {v w : V} {d : D} (h : RepW B F H v d) (e : TkL.toV d = some w) : v = w := by
  cases d with
  | lst l => cases e
  | dct ks l => cases e
  | _ => exact Rep.toV h e
theorem Reps.toVs {K : PySem.W.Frag} {C : Addr} {dO : Option Addr} : ∀ {vs ws : List V} {ds : List D}, Reps K C dO F vs ds → toVs ds = some ws → vs = ws
  | _, _, _, .nil, e => by cases e; rfl
  | _, _, _, .cons (d := d) (ds := ds) a t, e => by
    unfold TkL.toVs at e
    cases h1 : TkL.toV d with
    | none => rw [h1] at e; cases e
    | some x =>
      cases h2 : TkL.toVs ds with
      | none => rw [h1, h2] at e; cases e
      | some xs => rw [h1, h2] at e; cases e; rw [a.toV h1, t.toVs h2]
theorem RepW.seq {v : V} {d : D} {l : List D} (R : RelH B H F) (h : RepW B F H v d) (e : d = .lst l ∨ d = .tup l) : ∃ p vs, v = .ref p ∧ (SqL B.K H p vs ∨ SqT B.K H p vs) ∧ Reps B.K B.C B.dO F vs l := by
  rcases e with rfl | rfl
  · obtain ⟨p, vs, a, _, b, c⟩ := h
    exact ⟨p, vs, a, .inl (lOf b), c⟩
  · cases h with
    | tup a b => exact ⟨_, _, rfl, .inr (R.fh.sqT a), b⟩
theorem RepW.tup {v : V} {l : List D} (R : RelH B H F) (h : RepW B F H v (.tup l)) : ∃ p vs, v = .ref p ∧ SqT B.K H p vs ∧ Reps B.K B.C B.dO F vs l ∧ SqT B.K F p vs := by
  cases h with
  | tup a b => exact ⟨_, _, rfl, R.fh.sqT a, b, a⟩
theorem RepW.row {v : V} {r : RV} (R : RelH B H F) (h : RepW B F H v (.row r)) : ∃ a, v = .ref a ∧ RowAt B.K B.C F a r := by
  cases h with
  | row a => exact ⟨_, rfl, a⟩
theorem RowAt.ob {K : PySem.W.Frag} {C : Addr} {H : Hp} {a : Addr} {r : RV} (I : RowAt K C H a r) : ∃ dx fs, H a = some (.ins C dx fs) := by
  obtain ⟨dx, p1, p2, p3, p4, I⟩ := I
  exact ⟨_, _, I.ob⟩
theorem RepsW.one {vs : List V} {d : D} (h : RepsW B F H vs [d]) : ∃ v, vs = [v] ∧ RepW B F H v d := by
  cases h with
  | cons a t => cases t; exact ⟨_, rfl, a⟩
theorem RepsW.two {vs : List V} {d e : D} (h : RepsW B F H vs [d, e]) : ∃ v w, vs = [v, w] ∧ RepW B F H v d ∧ RepW B F H w e := by
  cases h with
  | cons a t => cases t with | cons b t => cases t; exact ⟨_, _, rfl, a, b⟩
theorem new_tup (R : RelH B H F) {p : Addr} {vs : List V} {ds : List D} (hp : H p = none) (r : Reps B.K B.C B.dO F vs ds) : St1 B H F (upd H p (.tup vs)) (growF F H (upd H p (.tup vs))) ∧ Rep B.K B.C B.dO (growF F H (upd H p (.tup vs))) (.ref p) (.tup ds) := by
  have s := St1.growE (H' := upd H p (.tup vs)) R (Ex.new hp)
  exact ⟨s, .tup (tOf (growF_at hp)) (r.ex s.ex)⟩
theorem new_own (R : RelH B H F) {p : Addr} {vs : List V} (hp : H p = none) : St1 B H F (upd H p (.lst vs)) F ∧ F p = none := by
  have hF : F p = none := by
    cases e : F p with
    | none => rfl
    | some o => rw [R.fh _ _ e] at hp; cases hp
  refine ⟨St1.mk' R (Ex.new hp).kpo (fun d e => ?_) (Ex.refl _) (R.fh.trans (Ex.new hp)) (fun _ _ h => h) (fun x o h1 h2 => ?_) R.nt, hF⟩
  · obtain ⟨ds, a, b⟩ := (R.dd d e).1
    exact ⟨ds, Ex.new hp _ _ a, b⟩
  · by_cases c : x = p
    · rw [c, upd_same] at h1; exact .inl ⟨vs, (Option.some.inj h1).symm⟩
    · rw [upd_ne c] at h1; exact R.lk x o h1 h2
end
def qI (C : Int → Int → Prop) (g : Int → Int → D) : U2 := fun x y P => match x, y with | .int i, .int j => C i j ∧ P (g i j) | _, _ => False
def qI0 (g : Int → Int → D) : U2 := fun x y P => match x, y with | .int i, .int j => P (g i j) | _, _ => False
def qEq : U2 := fun x y P => match toV x, toV y with | some v, some w => scal v w = true ∧ P (.bl (decide (v = w))) | _, _ => False
def qNe : U2 := fun x y P => match toV x, toV y with | some v, some w => scal v w = true ∧ P (.bl (!decide (v = w))) | _, _ => False
def qIsNon : U2 := fun x y P => match y with | .non => P (.bl (isNonD x)) | _ => False
def qNotNon : U2 := fun x y P => match y with | .non => P (.bl (!isNonD x)) | _ => False
def qAddS : U2 := fun x y P => match x, y with | .str i, .str j => i.length + j.length ≤ sizeLine ∧ P (.str (i ++ j)) | _, _ => False
def qCat : U2 := fun x y P => match x, y with | .lst l, .lst m => l.length + m.length ≤ 1000000 ∧ P (.lst (l ++ m)) | _, _ => False
def qCatA : U2 := fun x y P => match x, y with | .tup l, .tup m => l.length + m.length ≤ 1000000 ∧ P (.tup (l ++ m)) | _, _ => False
def qIxL : U2 := fun x y P => match x, y with | .lst l, .int k => ∃ d, atI l k = some d ∧ P d | _, _ => False
def qIxT : U2 := fun x y P => match x, y with | .tup l, .int k => ∃ d, atI l k = some d ∧ P d | _, _ => False
def qMrk (neg : Bool) : U2 := fun x y P => match x, y with | .int t, .mrk ks => P (.bl (if neg then !decide (t ∈ ks) else decide (t ∈ ks))) | _, _ => False
def qUp (up : UP) : U2 := fun x y P => match x with | .row _ => up [x, y] P | _ => False
def qUpR (up : UP) : U2 := fun x y P => match x, y with | .row _, .row _ => up [x, y] P | _, _ => False
def qUpN (up : UP) : U2 := fun x y P => match x, y with | .row _, .row _ => up [x, y] (fun d => match d with | .bl c => P (.bl (!c)) | _ => False) | _, _ => False
def spU (K : PySem.W.Frag) (C : Addr) (up : UP) : Sp := fun vs H Q _ => ∃ dO F ds P, RelH ⟨K, C, dO, H, F, []⟩ H F ∧ Reps K C dO F vs ds ∧ up ds P ∧ ∀ d H' F' v, P d → RelH ⟨K, C, dO, H, F, []⟩ H' F' → Rep K C dO F' v d → Q v H'
section
variable {B : Bs} {H F : Hp}
theorem RelH.start (R : RelH B H F) : RelH ⟨B.K, B.C, B.dO, H, F, []⟩ H F := ⟨R.fh, Ex.refl _, fun _ _ h => h, R.lk, KpT.refl, fun d e => (R.dd d e).1.some, R.dd, (fun _ z => nomatch z), (fun _ z => nomatch z), R.nt, fun z => absurd rfl z⟩
theorem RelH.st1 {H' F' : Hp} (R : RelH B H F) (R' : RelH ⟨B.K, B.C, B.dO, H, F, []⟩ H' F') : St1 B H F H' F' := St1.mk' R R'.kp.full (fun d e => (R'.dd d e).1) R'.ff R'.fh R'.f0 R'.lk R'.nt
theorem spU_call {up : UP} {vs : List V} {ds : List D} {Q : VK} {E : XK} {P : D → Prop} (R : RelH B H F) (r : Reps B.K B.C B.dO F vs ds) (h : up ds P) (k : ∀ H' F' v d, St1 B H F H' F' → Rep B.K B.C B.dO F' v d → P d → Q v H') : spU B.K B.C up vs H Q E :=
  ⟨B.dO, F, ds, P, R.start, r, h, fun d H' F' v p R' rp => k H' F' v d (R.st1 R') rp p⟩
theorem RepW.rep {v : V} {d : D} (h : RepW B F H v d) (n : ∀ l, d ≠ .lst l) (m : ∀ ks l, d ≠ .dct ks l) : Rep B.K B.C B.dO F v d := by
  cases d with
  | lst l => exact absurd rfl (n l)
  | dct ks l => exact absurd rfl (m ks l)
  | _ => exact h
theorem s2_I {C : Int → Int → Prop} {g : Int → Int → V} {g' : Int → Int → D} (hg : ∀ F i j, Rep B.K B.C B.dO F (g i j) (g' i j)) : Sim2 B (rI C g) (qI C g') := fun H F x y dx dy Q P R rx ry hq k => by
  unfold qI at hq
  split at hq
  · cases rx; cases ry
    exact ⟨_, _, rfl, rfl, hq.1, k H F _ _ .refl (hg F _ _) hq.2⟩
  · exact hq.elim
theorem s2_I0 {g : Int → Int → V} {g' : Int → Int → D} (hg : ∀ F i j, Rep B.K B.C B.dO F (g i j) (g' i j)) : Sim2 B (rI0 g) (qI0 g') := fun H F x y dx dy Q P R rx ry hq k => by
  unfold qI0 at hq
  split at hq
  · cases rx; cases ry
    exact ⟨_, _, rfl, rfl, k H F _ _ .refl (hg F _ _) hq⟩
  · exact hq.elim
theorem s2_Eq : Sim2 B rEq qEq := fun H F x y dx dy Q P R rx ry hq k => by
  unfold qEq at hq
  split at hq
  · rename_i v w e1 e2
    rw [rx.toV e1, ry.toV e2]
    exact ⟨hq.1, k H F _ _ .refl .bl hq.2⟩
  · exact hq.elim
theorem s2_Ne : Sim2 B rNe qNe := fun H F x y dx dy Q P R rx ry hq k => by
  unfold qNe at hq
  split at hq
  · rename_i v w e1 e2
    rw [rx.toV e1, ry.toV e2]
    exact ⟨hq.1, k H F _ _ .refl .bl hq.2⟩
  · exact hq.elim
theorem RepW.isNon {v : V} {d : D} (h : RepW B F H v d) : decide (v = .non) = isNonD d := by
  cases d with
  | lst l => obtain ⟨p, vs, rfl, _⟩ := h; rfl
  | dct ks l => obtain ⟨p, vs, rfl, _⟩ := h; rfl
  | _ => cases h <;> first | rfl | (cases ‹Rep _ _ _ _ _ _› <;> rfl)
theorem s2_IsNon : Sim2 B rIsNon qIsNon := fun H F x y dx dy Q P R rx ry hq k => by
  unfold qIsNon at hq
  split at hq
  · cases ry
    refine ⟨rfl, ?_⟩
    rw [rx.isNon]
    exact k H F _ _ .refl .bl hq
  · exact hq.elim
theorem s2_AddS : Sim2 B rAddS qAddS := fun H F x y dx dy Q P R rx ry hq k => by
  unfold qAddS at hq
  split at hq
  · cases rx; cases ry
    exact ⟨_, _, rfl, rfl, hq.1, k H F _ _ .refl .str hq.2⟩
  · exact hq.elim
theorem atI_get {l : List D} {vs : List V} {K : PySem.W.Frag} {C : Addr} {dO : Option Addr} {i : Int} {d : D} (r : Reps K C dO F vs l) (e : atI l i = some d) : ∃ v, atI vs i = some v ∧ Rep K C dO F v d := by
  unfold atI at e ⊢
  rw [r.len]
  cases h : ixN l.length i with
  | none => rw [h] at e; cases e
  | some j =>
    rw [h] at e
    exact r.get' e
theorem s2_ixL : Sim2 B (rIxL B.K) qIxL := fun H F x y dx dy Q P R rx ry hq k => by
  unfold qIxL at hq
  split at hq
  · obtain ⟨p, vs, rfl, _, a, b⟩ := rx
    cases ry
    obtain ⟨d, e, hq⟩ := hq
    obtain ⟨v, h1, h2⟩ := atI_get b e
    exact ⟨p, vs, _, v, rfl, rfl, lOf a, h1, k H F _ _ .refl h2 hq⟩
  · exact hq.elim
theorem s2_ixT : Sim2 B (rIxT B.K) qIxT := fun H F x y dx dy Q P R rx ry hq k => by
  unfold qIxT at hq
  split at hq
  · obtain ⟨p, vs, rfl, a, b, a'⟩ := rx.tup R
    cases ry
    obtain ⟨d, e, hq⟩ := hq
    obtain ⟨v, h1, h2⟩ := atI_get b e
    exact ⟨p, vs, _, v, rfl, rfl, a, h1, k H F _ _ .refl h2 hq⟩
  · exact hq.elim
def qUpI (up : UP) : U2 := fun x y P => match x, y with | .row _, .int _ => up [x, y] P | _, _ => False
theorem s2_ownNe {up : UP} : Sim2 B (rOwnNe B.C (spU B.K B.C up) E0) (qUpN up) := fun H F x y dx dy Q P R rx ry hq k => by
  unfold qUpN at hq
  split at hq
  · obtain ⟨a, rfl, ra⟩ := rx.row R
    obtain ⟨b, rfl, rb⟩ := ry.row R
    obtain ⟨dx, fs, ha⟩ := ra.ob
    obtain ⟨dy, gs, hb⟩ := rb.ob
    refine ⟨a, dx, fs, b, dy, gs, rfl, rfl, R.fh _ _ ha, R.fh _ _ hb, spU_call R (.cons (.row ra) (.cons (.row rb) .nil)) hq fun H' F' v d s rp p => ?_⟩
    split at p
    · cases rp
      exact ⟨_, rfl, k H' F' _ _ s .bl p⟩
    · exact p.elim
  · exact hq.elim
end
end TkL


namespace TkL
open PySem PySem.Spec PySem.Calls PyProof.Rows L2 Tk
def gLen : UP := fun ds P => match ds with | [.lst l] => P (.int l.length) | [.tup l] => P (.int l.length) | _ => False
def gInt : UP := fun ds P => match ds with | [.int i] => P (.int i) | [.bl k] => P (.int (if k then 1 else 0)) | _ => False
def gStr : UP := fun ds P => match ds with | [.int i] => i.natAbs.log2 < 1920 ∧ P (.str (toString i)) | _ => False
def gList : UP := fun ds P => match ds with | [.lst l] => l.length ≤ 1000000 ∧ P (.lst l) | [.tup l] => l.length ≤ 1000000 ∧ P (.lst l) | _ => False
def gTuple : UP := fun ds P => match ds with | [.lst l] => l.length ≤ 1000000 ∧ P (.tup l) | [.tup l] => P (.tup l) | _ => False
def gSum : UP := fun ds P => match ds with | [.lst l] => ∃ ns : List Int, l = iL ns ∧ P (.int ns.sum) | _ => False
def gAll : UP := fun ds P => match ds with | [.lst l] => ∃ bs : List Bool, l = bL bs ∧ P (.bl (bs.all id)) | _ => False
def gMax2 : UP := fun ds P => match ds with | [.int i, .int j] => P (.int (if j > i then j else i)) | _ => False
def gMin2 : UP := fun ds P => match ds with | [.int i, .int j] => P (.int (if j < i then j else i)) | _ => False
section
variable {B : Bs} {H F : Hp}
theorem sk_len : SimK B (kLen B.K) gLen := fun H F vs ds Q P R r h k => by
  unfold gLen at h
  split at h
  · obtain ⟨v, rfl, a⟩ := r.one
    obtain ⟨p, ws, rfl, b, c⟩ := a.seq R (.inl rfl)
    exact ⟨p, ws, rfl, b, by rw [c.len]; exact k H F _ _ .refl .int h⟩
  · obtain ⟨v, rfl, a⟩ := r.one
    obtain ⟨p, ws, rfl, b, c⟩ := a.seq R (.inr rfl)
    exact ⟨p, ws, rfl, b, by rw [c.len]; exact k H F _ _ .refl .int h⟩
  · exact h.elim
theorem sk_str : SimK B kStr gStr := fun H F vs ds Q P R r h k => by
  unfold gStr at h
  split at h
  · obtain ⟨v, rfl, a⟩ := r.one
    cases a
    exact ⟨_, rfl, h.1, k H F _ _ .refl .str h.2⟩
  · exact h.elim
theorem RepW.ints {v : V} {l : List Int} (h : RepW B F H v (.lst (iL l))) : ∃ p, v = .ref p ∧ H p = some (.lst (l.map V.int)) := by
  obtain ⟨p, vs, rfl, _, a, b⟩ := h
  exact ⟨p, rfl, by rw [a, b.ints]⟩
theorem sk_all : SimK B (rAll B.K) gAll := fun H F vs ds Q P R r h k => by
  unfold gAll at h
  split at h
  · obtain ⟨v, rfl, a⟩ := r.one
    obtain ⟨ns, rfl, h⟩ := h
    obtain ⟨p, ws, rfl, _, b, c⟩ := a
    have e := c.bls
    subst e
    exact ⟨p, ns, rfl, lOf b, k H F _ _ .refl .bl h⟩
  · exact h.elim
theorem Paired.ex {K : PySem.W.Frag} {H F : Hp} (e : Ex F H) : ∀ {ps : List Addr} {kvs : List (Key × V)}, Paired (fun p (kv : Key × V) => SqT K F p [kV kv.1, kv.2]) ps kvs → Paired (fun p (kv : Key × V) => SqT K H p [kV kv.1, kv.2]) ps kvs
  | _, _, .nil => .nil
  | _, _, .cons a t => .cons (e.sqT a) (Paired.ex e t)
end
section
variable {B : Bs} {t ta tb tc te td : TE} {u ua ub uc ue ud : UE} {tt tt' : TT} {ut ut' : UT} {A : TA} {U : UA}
theorem sE_andV (ha : SimW B ta ua) (hb : SimE B tb ub) : SimE B (tAndV ta tb) (uAndV ua ub) := fun H F σ ρ Q P R hu k =>
  ha H F σ ρ _ _ R hu fun H1 F1 v d ρ1 e1 k1 R1 r1 p1 => by
    obtain ⟨c, rfl, p1⟩ := p1
    cases r1
    refine ⟨c, rfl, ?_⟩
    cases c with
    | true => exact hb H1 F1 σ ρ1 _ _ R1 p1 fun H2 F2 v d ρ2 e2 k2 R2 rp p2 => k H2 F2 v d ρ2 (e1.trans e2) (k1.trans k2) R2 rp p2
    | false => exact k H1 F1 _ _ ρ1 e1 k1 R1 .bl p1
theorem sE_notV (ha : SimW B ta ua) : SimE B (tNotV ta) (uNotV ua) := fun H F σ ρ Q P R hu k =>
  ha H F σ ρ _ _ R hu fun H1 F1 v d ρ1 e1 k1 R1 r1 p1 => by
    obtain ⟨c, rfl, p1⟩ := p1
    cases r1
    exact ⟨c, rfl, k H1 F1 _ _ ρ1 e1 k1 R1 .bl p1⟩
theorem sT_B (ha : SimW B ta ua) : SimT B (tB ta) (uB ua) := fun H F σ ρ Q P R hu k =>
  ha H F σ ρ _ _ R hu fun H1 F1 v d ρ1 e1 k1 R1 r1 p1 => by
    obtain ⟨c, rfl, p1⟩ := p1
    cases r1
    exact ⟨c, rfl, k H1 F1 _ ρ1 e1 k1 R1 p1⟩
theorem sT_test (ha : SimW B ta ua) : SimT B (tTest ta) (uB ua) := sT_B ha
theorem sT_or (ha : SimT B tt ut) (hb : SimT B tt' ut') : SimT B (tOr tt tt') (uOr ut ut') := fun H F σ ρ Q P R hu k =>
  ha H F σ ρ _ _ R hu fun H1 F1 c ρ1 e1 k1 R1 p1 => by
    cases c with
    | false => exact hb H1 F1 σ ρ1 _ _ R1 p1 fun H2 F2 d ρ2 e2 k2 R2 p2 => k H2 F2 d ρ2 (e1.trans e2) (k1.trans k2) R2 p2
    | true => exact k H1 F1 _ ρ1 e1 k1 R1 p1
theorem sT_not (ha : SimT B tt ut) : SimT B (tNot tt) (uNot ut) := fun H F σ ρ Q P R hu k =>
  ha H F σ ρ _ _ R hu fun H1 F1 c ρ1 e1 k1 R1 p1 => k H1 F1 _ ρ1 e1 k1 R1 p1
def truD : D → Option Bool
  | .int i => some (i != 0) | .bl b => some b | .non => some false | .lst l => some (!l.isEmpty) | .tup l => some (!l.isEmpty) | _ => none
def uTru (a : UE) : UT := fun ρ P => a ρ fun x ρ1 => match truD x with | some k => P k ρ1 | none => False
def uNotT (a : UE) : UE := fun ρ P => a ρ fun x ρ1 => match truD x with | some k => P (.bl (!k)) ρ1 | none => False
def uTruO (up : UP) (a : UE) : UT := fun ρ P => a ρ fun x ρ1 => match x with | .row r => up [.row r] (fun d => match d with | .bl c => P c ρ1 | _ => False) | _ => False
theorem sE_tup (hA : SimP B A U) : SimE B (tTup A) (uTup U) := fun H F σ ρ Q P R hu k =>
  hA H F σ ρ _ _ R hu fun H1 F1 vs ds ρ1 e1 k1 R1 r1 p1 => ⟨by rw [r1.len]; exact sz_of p1.1, fun p hp => by
    obtain ⟨s, r⟩ := new_tup R1.toRelH hp r1
    exact k _ _ _ _ ρ1 (e1.trans s.ex) (k1.trans (s.kq R1)) (s.rel _ _ R1) r p1.2⟩
theorem sN_lst (hA : SimP B A U) : SimN B (tLst A) (uLst U) := fun H F σ ρ Q P R hu k =>
  hA H F σ ρ _ _ R hu fun H1 F1 vs ds ρ1 e1 k1 R1 r1 p1 => ⟨by rw [r1.len]; exact sz_of p1.1, fun p hp => by
    obtain ⟨s, hF⟩ := new_own (vs := vs) R1.toRelH hp
    exact k _ _ p _ _ ρ1 (e1.trans s.ex) (k1.trans (s.kq R1)) (s.rel _ _ R1) (k1.kp.back (R1.toRelH.nd hp) hp) (R1.fresh R1 hp fun _ _ h => h) hF upd_same r1 p1.2⟩
def uDef (up : UP) (a : UA) : UE := fun ρ P => a ρ fun xs ρ1 => up xs fun z => P z ρ1
def uRow (up : UP) (f : UE) (a : UA) : UE := fun ρ P => f ρ fun y ρ1 => (∃ r, y = .row r) ∧ a ρ1 fun xs ρ2 => up (y :: xs) fun z => P z ρ2
def uPrp (up : UP) (f : UE) : UE := fun ρ P => f ρ fun y ρ1 => (∃ r, y = .row r) ∧ up [y] fun z => P z ρ1
def uCM (up : UP) (f : UE) (a : UA) : UE := fun ρ P => f ρ fun y ρ1 => y = .cls ∧ a ρ1 fun xs ρ2 => up (.cls :: xs) fun z => P z ρ2
theorem sE_def {up : UP} (hA : SimP B A U) : SimE B (tDef (spU B.K B.C up) E0 A) (uDef up U) := fun H F σ ρ Q P R hu k =>
  hA H F σ ρ _ _ R hu fun H1 F1 vs ds ρ1 e1 k1 R1 r1 p1 => spU_call R1.toRelH r1 p1 fun H' F' v d s rp p => k H' F' v d ρ1 (e1.trans s.ex) (k1.trans (s.kq R1)) (s.rel _ _ R1) rp p
theorem sE_prp {up : UP} (hf : SimW B ta ua) : SimE B (tPrp B.C (spU B.K B.C up) E0 ta) (uPrp up ua) := fun H F σ ρ Q P R hu k =>
  hf H F σ ρ _ _ R hu fun H1 F1 v d ρ1 e1 k1 R1 r1 p1 => by
    obtain ⟨⟨r, rfl⟩, p1⟩ := p1
    obtain ⟨a, rfl, ra⟩ := r1.row R1.toRelH
    obtain ⟨dx, fs, ob⟩ := ra.ob
    exact ⟨a, dx, fs, rfl, R1.fh _ _ ob, spU_call R1.toRelH (.cons (.row ra) .nil) p1 fun H' F' v d s rp p => k H' F' v d ρ1 (e1.trans s.ex) (k1.trans (s.kq R1)) (s.rel _ _ R1) rp p⟩
theorem sE_cm {up : UP} (hf : SimW B ta ua) (hA : SimP B A U) : SimE B (ClX.tCMeth B.C (spU B.K B.C up) E0 ta A) (uCM up ua U) := fun H F σ ρ Q P R hu k =>
  hf H F σ ρ _ _ R hu fun H1 F1 v d ρ1 e1 k1 R1 r1 p1 => by
    obtain ⟨rfl, p1⟩ := p1
    cases r1
    exact ⟨rfl, hA H1 F1 σ ρ1 _ _ R1 p1 fun H2 F2 vs ds ρ2 e2 k2 R2 r2 p2 => spU_call R2.toRelH (.cons .cls r2) p2 fun H' F' v d s rp p => k H' F' v d ρ2 ((e1.trans e2).trans s.ex) ((k1.trans k2).trans (s.kq R2)) (s.rel _ _ R2) rp p⟩
def uMrk (neg : Bool) (a b : UE) : UE := fun ρ P => a ρ fun x ρ1 => b ρ1 fun y ρ2 => qMrk neg x y fun z => P z ρ2
def cutD (xs : List D) (lo hi : Option Int) : List D := (xs.drop (HT.sIx xs.length 0 lo)).take (HT.sIx xs.length xs.length hi - HT.sIx xs.length 0 lo)
abbrev UO := Env → (Option Int → Env → Prop) → Prop
def uNoPart : UO := fun ρ P => P none ρ
def uPart (a : UE) : UO := fun ρ P => a ρ fun x ρ1 => match x with | .int i => P (some i) ρ1 | _ => False
def uSlL (a : UE) (l h : UO) : UE := fun ρ P => a ρ fun x ρ1 => l ρ1 fun lo ρ2 => h ρ2 fun hi ρ3 => match x with | .lst xs => P (.lst (cutD xs lo hi)) ρ3 | _ => False
def uSlT (a : UE) (l h : UO) : UE := fun ρ P => a ρ fun x ρ1 => l ρ1 fun lo ρ2 => h ρ2 fun hi ρ3 => match x with | .tup xs => P (.tup (cutD xs lo hi)) ρ3 | _ => False
def uBMS (g : Str → UP) (a : UE) (U : UA) : UE := fun ρ P => a ρ fun x ρ1 => match x with | .str z => U ρ1 fun xs ρ2 => g z xs fun d => P d ρ2 | _ => False
def gJoin (a : Str) : UP := fun ds P => match ds with | [.lst l] => ∃ ys : List Str, l = strL ys ∧ (ys.map (·.length)).sum + ys.length * a.length ≤ 16777216 ∧ P (.str (Txt.join a ys)) | _ => False
end
end TkL


namespace TkL
open PySem PySem.Spec PySem.Calls PyProof.Rows L2 Tk
structure UEnds where
  nx : Env → Prop
  rt : D → Prop
  bk : Env → Prop := fun _ => False
  ct : Env → Prop := fun _ => False
abbrev US := UEnds → Env → Prop
abbrev UG := D → Env → (Env → Prop) → Prop
abbrev UGs := List D → Env → (Env → Prop) → Prop
abbrev UI := Env → (List D → Env → Prop) → Prop
structure Kn (B : Bs) (F : Hp) (D1 : Ends) (P : UEnds) : Prop where
  nx : ∀ H' F' σ' ρ', Ex F F' → RelF B H' F' σ' ρ' → P.nx ρ' → D1.nx σ' H'
  rt : ∀ H' F' v d, Ex F F' → RelH B H' F' → Rep B.K B.C B.dO F' v d → P.rt d → D1.rt v H'
  bk : ∀ H' F' σ' ρ', Ex F F' → RelF B H' F' σ' ρ' → P.bk ρ' → D1.bk σ' H'
  ct : ∀ H' F' σ' ρ', Ex F F' → RelF B H' F' σ' ρ' → P.ct ρ' → D1.ct σ' H'
theorem Kn.up {B : Bs} {F F1 : Hp} {D1 : Ends} {P : UEnds} (k : Kn B F D1 P) (e : Ex F F1) : Kn B F1 D1 P :=
  ⟨fun H' F' σ' ρ' e' => k.nx H' F' σ' ρ' (e.trans e'), fun H' F' v d e' => k.rt H' F' v d (e.trans e'), fun H' F' σ' ρ' e' => k.bk H' F' σ' ρ' (e.trans e'), fun H' F' σ' ρ' e' => k.ct H' F' σ' ρ' (e.trans e')⟩
def SimS (B : Bs) (t : TS) (u : US) : Prop := ∀ H F σ ρ (D1 : Ends) (P : UEnds), RelF B H F σ ρ → u P ρ → Kn B F D1 P → t D1 σ H
def SimG (B : Bs) (g : TG) (u : UG) : Prop := ∀ H F σ ρ v d (Q : L2.St → Hp → Prop) (P : Env → Prop), RelF B H F σ ρ → Rep B.K B.C B.dO F v d → u d ρ P → (∀ σ' ρ', RelF B H F σ' ρ' → P ρ' → Q σ' H) → g v σ H Q
def SimGs (B : Bs) (g : TGs) (u : UGs) : Prop := ∀ H F σ ρ v d (Q : L2.St → Hp → Prop) (P : Env → Prop), RelF B H F σ ρ → Reps B.K B.C B.dO F v d → u d ρ P → (∀ σ' ρ', RelF B H F σ' ρ' → P ρ' → Q σ' H) → g v σ H Q
def uName (i : Nat) : UG := fun d ρ P => P (ρ.set i (.val d))
def uGNil : UGs := fun ds ρ P => ds = [] ∧ P ρ
def uGCons (a : UG) (b : UGs) : UGs := fun ds ρ P => ∃ d r, ds = d :: r ∧ a d ρ fun ρ1 => b r ρ1 P
def uGTup (n : Nat) (b : UGs) : UG := fun d ρ P => match d with | .tup ds => ds.length = n ∧ b ds ρ P | _ => False
def uNext : US := fun P ρ => P.nx ρ
def uBreak : US := fun P ρ => P.bk ρ
def uCont : US := fun P ρ => P.ct ρ
def uSeq (a b : US) : US := fun P ρ => a { P with nx := b P } ρ
def uDrop (a : UE) : US := fun P ρ => a ρ fun _ ρ1 => P.nx ρ1
def uRet (a : UE) : US := fun P ρ => a ρ fun d _ => P.rt d
def uRetN : US := fun P _ => P.rt .non
def uIfS (c : UT) (a b : US) : US := fun P ρ => c ρ fun k ρ1 => if k = true then a P ρ1 else b P ρ1
def uAsg (a : UE) (g : UG) : US := fun P ρ => a ρ fun d ρ1 => g d ρ1 P.nx
def uAsgO (a : UE) (i : Nat) : US := fun P ρ => a ρ fun d ρ1 => match d with | .lst l => P.nx (ρ1.set i (.own l)) | _ => False
def uPar (i j : Nat) (a : UA) : US := fun P ρ => a ρ fun ds ρ1 => match ds with | [x, y] => P.nx ((ρ1.set i (.val x)).set j (.val y)) | _ => False
def uPar3 (i j k : Nat) (a : UA) : US := fun P ρ => a ρ fun ds ρ1 => match ds with | [x, y, z] => P.nx (((ρ1.set i (.val x)).set j (.val y)).set k (.val z)) | _ => False
def uApp (i : Nat) (a : UE) : US := fun P ρ => (∃ l0, ρ[i]? = some (.own l0)) ∧ a ρ fun d ρ1 => ∃ l, ρ1[i]? = some (.own l) ∧ l.length < 1000000 ∧ P.nx (ρ1.set i (.own (l ++ [d])))
def uExt (i : Nat) (a : UE) : US := fun P ρ => (∃ l0, ρ[i]? = some (.own l0)) ∧ a ρ fun d ρ1 => ∃ l m, ρ1[i]? = some (.own l) ∧ d = .lst m ∧ l.length + m.length ≤ 1000000 ∧ P.nx (ρ1.set i (.own (l ++ m)))
def uSetI (i : Nat) (a b : UE) : US := fun P ρ => b ρ fun d ρ1 => (∃ l0, ρ1[i]? = some (.own l0)) ∧ a ρ1 fun x ρ2 => ∃ l k j, ρ2[i]? = some (.own l) ∧ x = .int k ∧ ixN l.length k = some j ∧ P.nx (ρ2.set i (.own (l.set j d)))
def uFor (it : UI) (g : UG) (b : US) : US := fun P ρ => it ρ fun xs ρ1 => ∃ I : Nat → Env → Prop, I 0 ρ1 ∧ (∀ i x ρ, xs[i]? = some x → I i ρ → g x ρ fun ρ2 => b { P with nx := I (i + 1), ct := I (i + 1), bk := P.nx } ρ2) ∧ ∀ ρ, I xs.length ρ → P.nx ρ
structure Wu (B : Bs) (J : It) (F : Hp) (xs : List D) : Prop where
  go : ∀ H i, Ex F H → i < xs.length → J.go i H
  st : ∀ H i, Ex F H → xs.length ≤ i → J.stop i H
  yl : ∀ H F1 i v H', Ex F F1 → RelH B H F1 → i < xs.length → J.yld i H v H' → ∃ F2 d, St1 B H F1 H' F2 ∧ xs[i]? = some d ∧ Rep B.K B.C B.dO F2 v d
def SimI (B : Bs) (t : TI) (u : UI) : Prop := ∀ H F σ ρ (R : It → Hp → Prop) (P : List D → Env → Prop), RelF B H F σ ρ → u ρ P →
  (∀ H' F' J xs ρ', Ex F F' → Kq B σ H F ρ H' F' ρ' → RelF B H' F' σ ρ' → Wu B J F' xs → P xs ρ' → R J H') → t σ H R
def uIL (a : UE) : UI := fun ρ P => a ρ fun d ρ1 => match d with | .lst l => P l ρ1 | _ => False
def uIT (a : UE) : UI := fun ρ P => a ρ fun d ρ1 => match d with | .tup l => P l ρ1 | _ => False
def uISeq (a : UE) : UI := fun ρ P => a ρ fun d ρ1 => match d with | .lst l => P l ρ1 | .tup l => P l ρ1 | _ => False
def rngD (lo : Int) (n : Nat) : List D := (List.range n).map fun (k : Nat) => D.int (lo + (k : Int))
theorem rngD_length {lo : Int} {n : Nat} : (rngD lo n).length = n := by unfold rngD; simp
theorem rngD_get {lo : Int} {n i : Nat} (h : i < n) : (rngD lo n)[i]? = some (D.int (lo + (i : Int))) := by
  unfold rngD; simp [List.getElem?_range h]
def uIRng1 (a : UA) : UI := fun ρ P => a ρ fun ds ρ1 => match ds with | [.int j] => (-(2 ^ 62) ≤ j ∧ j < 2 ^ 62) ∧ P (rngD 0 j.toNat) ρ1 | _ => False
def uIRng2 (a : UA) : UI := fun ρ P => a ρ fun ds ρ1 => match ds with | [.int i, .int j] => (-(2 ^ 62) ≤ i ∧ i < 2 ^ 62 ∧ -(2 ^ 62) ≤ j ∧ j < 2 ^ 62) ∧ P (rngD i (j - i).toNat) ρ1 | _ => False
section
variable {B : Bs} {t ta tb tc te td : TE} {u ua ub uc ue ud : UE} {tt tt' : TT} {ut ut' : UT} {A : TA} {U : UA} {ts ts' : TS} {us us' : US}
theorem sG_name {i : Nat} : SimG B (gName i) (uName i) := fun H F σ ρ v d Q P R r hu k => k _ _ (R.setV r) hu
theorem sGs_nil : SimGs B gNil uGNil := fun H F σ ρ v d Q P R r hu k => by
  obtain ⟨rfl, hu⟩ := hu
  cases r
  exact ⟨rfl, k σ ρ R hu⟩
theorem sGs_cons {g : TG} {gs : TGs} {a : UG} {b : UGs} (h : SimG B g a) (h' : SimGs B gs b) : SimGs B (gCons g gs) (uGCons a b) := fun H F σ ρ v d Q P R r hu k => by
  obtain ⟨d, ds, rfl, hu⟩ := hu
  cases r with
  | cons r1 r2 => exact ⟨_, _, rfl, h H F σ ρ _ _ _ _ R r1 hu fun σ1 ρ1 R1 p1 => h' H F σ1 ρ1 _ _ _ _ R1 r2 p1 k⟩
theorem sG_tup {n : Nat} {gs : TGs} {b : UGs} (h : SimGs B gs b) : SimG B (gTup B.K n gs) (uGTup n b) := fun H F σ ρ v d Q P R r hu k => by
  unfold uGTup at hu
  split at hu
  · cases r with
    | tup h1 h2 => exact ⟨_, _, rfl, R.fh.sqT h1, by rw [h2.len]; exact hu.1, h H F σ ρ _ _ _ _ R h2 hu.2 k⟩
  · exact hu.elim
theorem sS_next : SimS B tNext uNext := fun H F σ ρ D1 P R hu k => k.nx H F σ ρ (Ex.refl _) R hu
theorem sS_seq (h : SimS B ts us) (h' : SimS B ts' us') : SimS B (tSeq ts ts') (uSeq us us') := fun H F σ ρ D1 P R hu k =>
  h H F σ ρ _ _ R hu ⟨fun H' F' σ' ρ' e R' p => h' H' F' σ' ρ' _ _ R' p (k.up e), k.rt, k.bk, k.ct⟩
theorem sS_ret (h : SimE B ta ua) : SimS B (tRet ta) (uRet ua) := fun H F σ ρ D1 P R hu k => h H F σ ρ _ _ R hu fun H1 F1 v d ρ1 e1 k1 R1 r1 p1 => k.rt H1 F1 v d e1 R1.toRelH r1 p1
theorem sS_if (hc : SimT B tt ut) (h : SimS B ts us) (h' : SimS B ts' us') : SimS B (tIfS tt ts ts') (uIfS ut us us') := fun H F σ ρ D1 P R hu k =>
  hc H F σ ρ _ _ R hu fun H1 F1 c ρ1 e1 k1 R1 p1 => by
    cases c with
    | true => exact h H1 F1 σ ρ1 D1 P R1 p1 (k.up e1)
    | false => exact h' H1 F1 σ ρ1 D1 P R1 p1 (k.up e1)
theorem sS_asg {g : TG} {ug : UG} (h : SimE B ta ua) (hg : SimG B g ug) : SimS B (tAsg ta g) (uAsg ua ug) := fun H F σ ρ D1 P R hu k =>
  h H F σ ρ _ _ R hu fun H1 F1 v d ρ1 e1 k1 R1 r1 p1 => hg H1 F1 σ ρ1 v d _ _ R1 r1 p1 fun σ' ρ' R' p' => k.nx H1 F1 σ' ρ' e1 R' p'
theorem RelF.mut {H F : Hp} {σ : L2.St} {ρ : Env} (R : RelF B H F σ ρ) {i : Nat} {l l' : List D} {p : Addr} {vs' : List V} (hi : ρ[i]? = some (.own l)) (hp : σ[i]? = some (some (.ref p))) (r : Reps B.K B.C B.dO F vs' l') : RelF B (upd H p (.lst vs')) F σ (ρ.set i (.own l')) := by
  obtain ⟨p', vs, a, b, c, d, g⟩ := R.own i l hi
  rw [hp] at a
  cases a
  have own' : ∀ (j : Nat) m, (ρ.set i (.own l'))[j]? = some (.own m) → (j = i ∧ m = l') ∨ (j ≠ i ∧ ρ[j]? = some (.own m)) := fun j m e => by
    rw [List.getElem?_set] at e
    by_cases cj : i = j
    · rw [if_pos cj] at e
      split at e
      · cases e; exact .inl ⟨cj.symm, rfl⟩
      · cases e
    · rw [if_neg cj] at e; exact .inr ⟨fun z => cj z.symm, e⟩
  have was : ∀ (j : Nat) m, (ρ.set i (.own l'))[j]? = some (.own m) → ∃ m', ρ[j]? = some (.own m') := fun j m e => by
    rcases own' j m e with ⟨rfl, _⟩ | ⟨_, q⟩
    · exact ⟨l, hi⟩
    · exact ⟨m, q⟩
  have wasM : ∀ (j : Nat) M fp, (ρ.set i (.own l'))[j]? = some (.mu M fp) → ρ[j]? = some (.mu M fp) := fun j M fp e => by
    rw [List.getElem?_set] at e
    by_cases cj : i = j
    · rw [if_pos cj] at e; split at e <;> cases e
    · rw [if_neg cj] at e; exact e
  refine ⟨⟨fun x o e => ?_, R.ff, R.f0, fun x o h1 h2 => ?_, fun x o n q e => ?_, R.hd, fun d' e => ?_, tabs_upd R.tb (.inr d), R.tz, R.nt, R.ht⟩, by rw [List.length_set]; exact R.len, fun j d' e => ?_, fun j m e => ?_, fun j k m n q e1 e2 h1 h2 => ?_, fun j M fp e => ?_, fun j k M fp m q e1 e2 h1 => ?_, fun j k M N fp gp y n e1 e2 => R.mm j k M N fp gp y n (wasM j M fp e1) (wasM k N gp e2)⟩
  · have : x ≠ p := fun z => by rw [z, c] at e; cases e
    rw [upd_ne this]; exact R.fh x o e
  · by_cases cx : x = p
    · rw [cx, upd_same] at h1; exact .inl ⟨vs', (Option.some.inj h1).symm⟩
    · rw [upd_ne cx] at h1; exact R.lk x o h1 h2
  · have : x ≠ p := fun z => by rw [z, b] at e; cases e
    rw [upd_ne this]; exact R.kp x o n q e
  · have : d' ≠ p := fun z => R.hd d' e (by rw [z]; exact b)
    obtain ⟨⟨ds, a1, a2⟩, a3⟩ := R.dd d' e
    exact ⟨⟨ds, by rw [upd_ne this]; exact a1, a2⟩, a3⟩
  · rw [List.getElem?_set] at e
    by_cases cj : i = j
    · rw [if_pos cj] at e; split at e <;> cases e
    · rw [if_neg cj] at e; exact R.val j d' e
  · rcases own' j m e with ⟨rfl, rfl⟩ | ⟨nj, q⟩
    · exact ⟨p, vs', hp, b, c, upd_same, r⟩
    · obtain ⟨q', ws, q1, q2, q3, q4, q5⟩ := R.own j m q
      have : q' ≠ p := fun z => nj (R.inj j i m l q' q hi q1 (by rw [z]; exact hp))
      exact ⟨q', ws, q1, q2, q3, by rw [upd_ne this]; exact q4, q5⟩
  · obtain ⟨m', q1⟩ := was j m e1
    obtain ⟨n', q2⟩ := was k n e2
    exact R.inj j k m' n' q q1 q2 h1 h2
  · have e := wasM j M fp e
    obtain ⟨q, q1, q2, q3⟩ := R.mu j M fp e
    have ne : ∀ x ∈ fp, x ≠ p := fun x hx z => R.mo j i M fp l p e hi hp (by rw [← z]; exact hx)
    refine ⟨q, q1, M.st q2 (fun x hx => upd_ne (ne x hx)) (Ex.refl _), fun x hx => ?_⟩
    rw [upd_ne (ne x hx)]
    exact q3 x hx
  · obtain ⟨m', q1⟩ := was k m e2
    exact R.mo j k M fp m' q (wasM j M fp e1) q1 h1
theorem Wu.of {J : It} {F : Hp} {vs : List V} {xs : List D} (w : Wk J F vs) (r : Reps B.K B.C B.dO F vs xs) : Wu B J F xs :=
  ⟨fun H i e hi => w.go H i e (by rw [r.len]; exact hi), fun H i e hi => w.st H i e (by rw [r.len]; exact hi), fun H F1 i v H' e R hi y => by
    obtain ⟨rfl, h⟩ := w.yl H i v H' (e.trans R.fh) (by rw [r.len]; exact hi) y
    obtain ⟨d, h1, h2⟩ := r.get h
    exact ⟨F1, d, .refl, h1, h2.ex e⟩⟩
theorem Wu.up {J : It} {F F' : Hp} {xs : List D} (w : Wu B J F xs) (e : Ex F F') : Wu B J F' xs :=
  ⟨fun H i e' => w.go H i (e.trans e'), fun H i e' => w.st H i (e.trans e'), fun H F1 i v H' e' => w.yl H F1 i v H' (e.trans e')⟩
theorem Reps.rng {K : PySem.W.Frag} {C : Addr} {dO : Option Addr} {F : Hp} (lo : Int) (n : Nat) : Reps K C dO F (rngV lo n) (rngD lo n) := by
  unfold rngV rngD
  induction List.range n with
  | nil => exact .nil
  | cons a l ih => exact .cons .int ih
theorem sI_rng1 (hA : SimA B A U) : SimI B (iRng1 A) (uIRng1 U) := fun H F σ ρ Rr P R hu k =>
  hA H F σ ρ _ _ R hu fun H1 F1 vs ds ρ1 e1 k1 R1 r1 p1 => by
    split at p1
    · obtain ⟨v, rfl, a⟩ := r1.one
      cases a
      exact ⟨_, rfl, p1.1.1, p1.1.2, k H1 F1 _ _ ρ1 e1 k1 R1 (Wu.of Wk.rng (Reps.rng 0 _)) p1.2⟩
    · exact p1.elim
def enD (xs : List D) : List D := (List.range xs.length).map fun i => .tup [.int (i : Nat), xs.getD i .non]
theorem enD_length {xs : List D} : (enD xs).length = xs.length := by unfold enD; simp
theorem enD_get {xs : List D} {i : Nat} {d : D} (h : xs[i]? = some d) : (enD xs)[i]? = some (.tup [.int (i : Nat), d]) := by
  have hi : i < xs.length := (List.getElem?_eq_some_iff.mp h).1
  unfold enD
  simp [List.getElem?_range hi, h]
def uEnum (a : UA) : UI := fun ρ P => a ρ fun ds ρ1 => match ds with | [.lst l] => P (enD l) ρ1 | [.tup l] => P (enD l) ρ1 | _ => False
theorem sI_enum (hA : SimP B A U) : SimI B (iEnumA B.K A) (uEnum U) := fun H F σ ρ Rr P R hu k =>
  hA H F σ ρ _ _ R hu fun H1 F1 vs ds ρ1 e1 k1 R1 r1 p1 => by
    have key : ∀ {J : It} {ws : List V} {l : List D} {T : V → Hp → Prop}, Reps B.K B.C B.dO F1 ws l → (∀ H i, Ex F1 H → i < ws.length → J.go i H) → (∀ H i, Ex F1 H → ws.length ≤ i → J.stop i H) →
        (∀ H i v H', Ex F1 H → J.yld i H v H' → ∃ T x, v = .ref T ∧ H T = none ∧ H' = upd H T (.tup [.int (i : Nat), x]) ∧ ws[i]? = some x) → Wu B J F1 (enD l) := fun {J ws l T} r g st yl =>
      ⟨fun H i e hi => g H i e (by rw [r.len, ← enD_length]; exact hi), fun H i e hi => st H i e (by rw [r.len, ← enD_length]; exact hi), fun H F2 i v H' e R2 hi y => by
        obtain ⟨T, x, rfl, hT, rfl, hx⟩ := yl H i v H' (e.trans R2.fh) y
        obtain ⟨d, h1, h2⟩ := r.get hx
        obtain ⟨s, rp⟩ := new_tup R2 hT (.cons (.int (i := (i : Nat))) (.cons (h2.ex e) .nil))
        exact ⟨_, _, s, enD_get h1, rp⟩⟩
    unfold uEnum at *
    split at p1
    · cases r1 with | cons a r1 =>
        cases r1
        cases a with
        | lst h1 h2 =>
          refine ⟨_, _, rfl, .inl ⟨lOf (R1.fh _ _ h1), k H1 F1 _ _ ρ1 e1 k1 R1 (key (T := fun _ _ => True) h2 (fun H i e hi => ⟨_, _, e.sqL (lOf h1), List.getElem?_eq_getElem hi⟩) (fun H i e hi => ⟨_, e.sqL (lOf h1), hi⟩) fun H i v H' e y => ?_) p1⟩⟩
          obtain ⟨T, x, a1, a2, a3, a4⟩ := y
          exact ⟨T, x, a1, a2, a3, a4 _ (e.sqL (lOf h1))⟩
    · cases r1 with | cons a r1 =>
        cases r1
        cases a with
        | tup h1 h2 =>
          refine ⟨_, _, rfl, .inr ⟨R1.fh.sqT h1, k H1 F1 _ _ ρ1 e1 k1 R1 (key (T := fun _ _ => True) h2 (fun H i e hi => ⟨_, _, e.sqT h1, List.getElem?_eq_getElem hi⟩) (fun H i e hi => ⟨_, e.sqT h1, hi⟩) fun H i v H' e y => ?_) p1⟩⟩
          obtain ⟨T, x, a1, a2, a3, a4⟩ := y
          exact ⟨T, x, a1, a2, a3, a4 _ (e.sqT h1)⟩
    · exact p1.elim
theorem sS_for {ti : TI} {ui : UI} {g : TG} {ug : UG} (hi : SimI B ti ui) (hg : SimG B g ug) (hb : SimS B ts us) : SimS B (tFor ti g ts) (uFor ui ug us) := fun H F σ ρ D1 P R hu k => by
  refine hi H F σ ρ _ _ R hu fun H1 F1 J xs ρ1 e1 k1 R1 w p1 => ?_
  obtain ⟨I, I0, step, fin⟩ := p1
  refine ⟨fun i m σ H => m = xs.length - i ∧ i ≤ xs.length ∧ ∃ F' ρ, Ex F1 F' ∧ RelF B H F' σ ρ ∧ I i ρ, ⟨_, rfl, Nat.zero_le _, F1, ρ1, Ex.refl _, R1, I0⟩, ?_⟩
  rintro i m σ2 H2 ⟨rfl, hle, F2, ρ2, e2, R2, I2⟩
  by_cases hlt : i < xs.length
  · refine .inr ⟨w.go H2 i (e2.trans R2.fh) hlt, fun σ H => ∃ F' ρ, Ex F1 F' ∧ RelF B H F' σ ρ ∧ I (i + 1) ρ, fun σ' H' h => ⟨_, by omega, rfl, hlt, h⟩, fun v H' y => ?_⟩
    obtain ⟨F3, d, s, hd, rp⟩ := w.yl H2 F2 i v H' e2 R2.toRelH hlt y
    have R3 := s.rel _ _ R2
    refine hg H' F3 σ2 ρ2 v d _ _ R3 rp (step i d ρ2 hd I2) fun σ4 ρ4 R4 p4 => ?_
    refine hb H' F3 σ4 ρ4 _ _ R4 p4 ⟨fun H5 F5 σ5 ρ5 e5 R5 p5 => ?_, ((k.up e1).up e2).up s.ex |>.rt, fun H5 F5 σ5 ρ5 e5 R5 p5 => ?_, fun H5 F5 σ5 ρ5 e5 R5 p5 => ?_⟩
    · exact ⟨F5, ρ5, e2.trans (s.ex.trans e5), R5, p5⟩
    · exact k.nx H5 F5 σ5 ρ5 (e1.trans (e2.trans (s.ex.trans e5))) R5 p5
    · exact ⟨F5, ρ5, e2.trans (s.ex.trans e5), R5, p5⟩
  · have e : i = xs.length := by omega
    subst e
    exact .inl ⟨w.st H2 _ (e2.trans R2.fh) (Nat.le_refl _), k.nx H2 F2 σ2 ρ2 (e1.trans e2) R2 (fin ρ2 I2)⟩
def wipeU (ρ : Env) : List Nat → Env
  | [] => ρ
  | v :: vs => (wipeU ρ vs).set v .no
def uLc (it : UI) (g : UG) (ct : UT) (el : UE) (vs : List Nat) : UE := fun ρ P => it ρ fun xs ρ1 => ∃ I : Nat → List D → Prop, I 0 [] ∧
  (∀ i x acc, xs[i]? = some x → I i acc → g x (wipeU ρ1 vs) fun ρ2 => ct ρ2 fun b ρ3 => if b = true then el ρ3 fun y ρ4 => wipeU ρ4 vs = wipeU ρ1 vs ∧ acc.length < 1000000 ∧ I (i + 1) (acc ++ [y]) else wipeU ρ3 vs = wipeU ρ1 vs ∧ I (i + 1) acc) ∧
  ∀ acc, I xs.length acc → P (.lst acc) ρ1
def uYes : UT := fun ρ P => P true ρ
theorem sT_yes : SimT B tYes uYes := fun H F σ ρ Q P R hu k => k H F true ρ (Ex.refl _) Kq.refl R hu
theorem RelF.wipe {H F : Hp} {σ : L2.St} {ρ : Env} (R : RelF B H F σ ρ) : ∀ vs : List Nat, RelF B H F (wipe σ vs) (wipeU ρ vs)
  | [] => R
  | v :: vs => (R.wipe vs).setN
theorem wipeU_own {ρ : Env} {i : Nat} {l : List D} : ∀ {vs : List Nat}, (wipeU ρ vs)[i]? = some (.own l) → ρ[i]? = some (.own l)
  | [], h => h
  | v :: vs, h => by
    unfold wipeU at h
    rw [List.getElem?_set] at h
    by_cases c : v = i
    · rw [if_pos c] at h; split at h <;> cases h
    · rw [if_neg c] at h; exact wipeU_own h
theorem wipeU_in {ρ : Env} {i : Nat} {l : List D} : ∀ {vs : List Nat}, (wipeU ρ vs)[i]? = some (.own l) → i ∉ vs
  | [], h => by simp
  | v :: vs, h => by
    unfold wipeU at h
    rw [List.getElem?_set] at h
    by_cases c : v = i
    · rw [if_pos c] at h; split at h <;> cases h
    · rw [if_neg c] at h
      intro z
      rcases List.mem_cons.mp z with z | z
      · exact c z.symm
      · exact wipeU_in h z
theorem wipeU_out {ρ : Env} {i : Nat} : ∀ {vs : List Nat}, i ∉ vs → (wipeU ρ vs)[i]? = ρ[i]?
  | [], h => rfl
  | v :: vs, h => by
    unfold wipeU
    rw [List.getElem?_set, if_neg fun z => h (by rw [z]; simp), wipeU_out fun z => h (by simp [z])]
theorem wipe_out {σ : L2.St} {i : Nat} : ∀ {vs : List Nat}, i ∉ vs → (wipe σ vs)[i]? = σ[i]?
  | [], h => rfl
  | v :: vs, h => by
    unfold wipe
    rw [List.getElem?_set, if_neg fun z => h (by rw [z]; simp), wipe_out fun z => h (by simp [z])]
theorem RelF.unwipe {H F H' F' : Hp} {σ : L2.St} {ρ : Env} (R : RelF B H F σ ρ) (e : Ex F F') (kp : Kpo B.dO H H') (R' : RelH B H' F') (fz : ∀ p vs', H p = some (.lst vs') → (∃ (i : Nat) (l : List D), ρ[i]? = some (Sl.own l) ∧ σ[i]? = some (some (V.ref p))) → F' p = none) (fm : ∀ (i : Nat) M fp x, ρ[i]? = some (.mu M fp) → x ∈ fp → H x ≠ none → F x = none → F' x = none) : RelF B H' F' σ ρ :=
  ⟨R', R.len, fun i d h => by
    obtain ⟨v, a, b⟩ := R.val i d h
    exact ⟨v, a, b.ex e⟩, fun i l h => by
    obtain ⟨p, ws, a, b, c, d, g⟩ := R.own i l h
    exact ⟨p, ws, a, b, fz p ws d ⟨i, l, h, a⟩, kp p _ (R.toRelH.d0 b) d, g.ex e⟩, R.inj, fun i M fp h => by
    obtain ⟨p, a, b, c⟩ := R.mu i M fp h
    have keep : ∀ x ∈ fp, H' x = H x := fun x hx => by
      obtain ⟨c1, c2, o, c3, c4⟩ := c x hx
      rw [c3]; exact kp x o (R.toRelH.d0 c1) c3
    refine ⟨p, a, M.st b keep e, fun x hx => ?_⟩
    obtain ⟨c1, c2, o, c3, c4⟩ := c x hx
    exact ⟨c1, fm i M fp x h hx (by rw [c3]; exact Option.some_ne_none _) c2, o, by rw [keep x hx]; exact c3, c4⟩, R.mo, R.mm⟩
def KtW (B : Bs) (g : TG) (u : UG) (vs : List Nat) : Prop := ∀ H F σ ρ v d (Q : L2.St → Hp → Prop) (P : Env → Prop), RelF B H F (wipe σ vs) (wipeU ρ vs) → Rep B.K B.C B.dO F v d → u d (wipeU ρ vs) P →
  (∀ σ' ρ', RelF B H F σ' ρ' → wipe σ' vs = wipe σ vs → (∀ (i : Nat) l, ρ'[i]? = some (.own l) → (wipeU ρ vs)[i]? = some (.own l) ∧ σ'[i]? = (wipe σ vs)[i]?) → P ρ' → Q σ' H) → g v (wipe σ vs) H Q
theorem setV_own {ρ : Env} {σ : L2.St} {i : Nat} {d : D} {x : Option V} (j : Nat) (l : List D) (h : (ρ.set i (.val d))[j]? = some (.own l)) : ρ[j]? = some (.own l) ∧ (σ.set i x)[j]? = σ[j]? := by
  rw [List.getElem?_set] at h ⊢
  by_cases c : i = j
  · rw [if_pos c] at h; split at h <;> cases h
  · rw [if_neg c] at h; rw [if_neg c]; exact ⟨h, rfl⟩
theorem ktw_name {i : Nat} : KtW B (gName i) (uName i) [i] := fun H F σ ρ v d Q P R r hu k => k _ _ (R.setV r) (wipe_set1 σ i (some v)) setV_own hu
theorem RelF.updN {H F : Hp} {σ : L2.St} {ρ : Env} (R : RelF B H F σ ρ) {p : Addr} {vs : List V} (h0 : B.H0 p = none) (hF : F p = none) (hn : Fre σ ρ p) (hH : ∃ ws, H p = some (.lst ws)) : RelF B (upd H p (.lst vs)) F σ ρ := by
  refine ⟨⟨fun x o e => ?_, R.ff, R.f0, fun x o h1 h2 => ?_, fun x o n q e => ?_, R.hd, fun d' e => ?_, tabs_upd R.tb (.inr hH.choose_spec), R.tz, R.nt, R.ht⟩, R.len, R.val, fun j m e => ?_, R.inj, fun j M fp e => ?_, R.mo, R.mm⟩
  · have : x ≠ p := fun z => by rw [z, hF] at e; cases e
    rw [upd_ne this]; exact R.fh x o e
  · by_cases cx : x = p
    · rw [cx, upd_same] at h1; exact .inl ⟨vs, (Option.some.inj h1).symm⟩
    · rw [upd_ne cx] at h1; exact R.lk x o h1 h2
  · have : x ≠ p := fun z => by rw [z, h0] at e; cases e
    rw [upd_ne this]; exact R.kp x o n q e
  · have : d' ≠ p := fun z => R.hd d' e (by rw [z]; exact h0)
    obtain ⟨⟨ds, a1, a2⟩, a3⟩ := R.dd d' e
    exact ⟨⟨ds, by rw [upd_ne this]; exact a1, a2⟩, a3⟩
  · obtain ⟨q, ws, q1, q2, q3, q4, q5⟩ := R.own j m e
    have : q ≠ p := fun z => hn.1 j m e (by rw [← z]; exact q1)
    exact ⟨q, ws, q1, q2, q3, by rw [upd_ne this]; exact q4, q5⟩
  · obtain ⟨q, q1, q2, q3⟩ := R.mu j M fp e
    have ne : ∀ x ∈ fp, x ≠ p := fun x hx z => hn.2 j M fp e (by rw [← z]; exact hx)
    refine ⟨q, q1, M.st q2 (fun x hx => upd_ne (ne x hx)) (Ex.refl _), fun x hx => ?_⟩
    rw [upd_ne (ne x hx)]
    exact q3 x hx
theorem sN_lc {ti : TI} {ui : UI} {g : TG} {ug : UG} {vs : List Nat} (hi : SimI B ti ui) (hg : KtW B g ug vs) (ht : SimT B tt ut) (he : SimE B te ue) : SimN B (tLc ti g tt te vs) (uLc ui ug ut ue vs) := fun H F σ ρ Q P R hu k => by
  refine hi H F σ ρ _ _ R hu fun H1 F1 J xs ρ1 e1 k1 R1 w p1 => fun D hD => ?_
  obtain ⟨I, I0, step, fin⟩ := p1
  have D0 : B.H0 D = none := R1.toRelH.n0 hD
  have Dd : some D ≠ B.dO := R1.toRelH.nd hD
  have hn1 : Fre σ ρ1 D := R1.fresh R1 hD fun _ _ h => h
  obtain ⟨s0, hF0⟩ := new_own (vs := []) R1.toRelH hD
  refine ⟨fun i m H => m = xs.length - i ∧ i ≤ xs.length ∧ ∃ F2 acc ws, Ex F1 F2 ∧ Kq B σ H1 F1 ρ1 H F2 ρ1 ∧ RelF B H F2 σ ρ1 ∧ H D = some (.lst ws) ∧ F2 D = none ∧ Reps B.K B.C B.dO F2 ws acc ∧ I i acc,
    ⟨_, rfl, Nat.zero_le _, F1, [], [], Ex.refl _, s0.kq R1, s0.rel _ _ R1, upd_same, hF0, .nil, I0⟩, ?_⟩
  rintro i m H2 ⟨rfl, hle, F2, acc, ws, e2, k2, R2, hD2, hF2, r2, I2⟩
  by_cases hlt : i < xs.length
  · refine .inr ⟨w.go H2 i (e2.trans R2.fh) hlt, fun H => ∃ F2 acc ws, Ex F1 F2 ∧ Kq B σ H1 F1 ρ1 H F2 ρ1 ∧ RelF B H F2 σ ρ1 ∧ H D = some (.lst ws) ∧ F2 D = none ∧ Reps B.K B.C B.dO F2 ws acc ∧ I (i + 1) acc, fun H' h => ⟨_, by omega, rfl, hlt, h⟩, fun v H' y => ?_⟩
    obtain ⟨F3, d, s, hd, rp⟩ := w.yl H2 F2 i v H' e2 R2.toRelH hlt y
    have R3 := s.rel _ _ R2
    have k3 := s.kq R2
    have hD3 : H' D = some (.lst ws) := s.kp D _ Dd hD2
    have hF3 : F3 D = none := s.fz R2.toRelH D (by rw [hD2]; exact Option.some_ne_none _) hF2
    refine hg H' F3 σ ρ1 v d _ _ (R3.wipe vs) rp (step i d acc hd I2) fun σ4 ρ4 R4 w4 o4 p4 => ⟨w4, ?_⟩
    have hn4 : ∀ (i : Nat) l, ρ4[i]? = some (.own l) → σ4[i]? ≠ some (some (.ref D)) := fun i l h z => by
      obtain ⟨a, b⟩ := o4 i l h
      have ni := wipeU_in a
      rw [wipeU_out ni] at a
      rw [b, wipe_out ni] at z
      exact hn1.1 i l a z
    have back : ∀ {H5 F5 ρ5}, Ex F3 F5 → Kq B σ4 H' F3 ρ4 H5 F5 ρ5 → RelF B H5 F5 σ4 ρ5 → wipeU ρ5 vs = wipeU ρ1 vs → RelF B H5 F5 σ ρ1 ∧ Kq B σ H1 F1 ρ1 H5 F5 ρ1 ∧ H5 D = some (.lst ws) ∧ F5 D = none := fun {H5 F5 ρ5} e5 k5 R5 w5 => by
      have fz : ∀ p, H' p ≠ none → F3 p = none → ((∃ (i : Nat) (l : List TkL.D), ρ1[i]? = some (Sl.own l) ∧ σ[i]? = some (some (V.ref p))) ∨ ∀ (i : Nat) l, ρ1[i]? = some (.own l) → σ[i]? ≠ some (some (.ref p))) → F5 p = none := fun p hp hf c => by
        by_cases q : ∃ (j : Nat) (l : List TkL.D), ρ4[j]? = some (Sl.own l) ∧ σ4[j]? = some (some (V.ref p))
        · obtain ⟨j, l, q1, q2⟩ := q
          obtain ⟨a, b⟩ := o4 j l q1
          have nj := wipeU_in a
          have a' : (wipeU ρ5 vs)[j]? = some (.own l) := by rw [w5]; exact a
          have a5 := wipeU_own a'
          obtain ⟨p', ws', c1, _, c3, _⟩ := R5.own j l a5
          rw [q2] at c1
          cases c1
          exact c3
        · exact k5.pr p hp hf fun j l h z => q ⟨j, l, h, z⟩
      have RR := R3.unwipe e5 k5.kp R5.toRelH fun p vs' hp hown => by
        obtain ⟨i, l, q1, q2⟩ := hown
        obtain ⟨p', ws', c1, _, c3, c4, _⟩ := R3.own i l q1
        rw [q2] at c1
        cases c1
        exact fz p (by rw [c4]; exact Option.some_ne_none _) c3 (.inl ⟨i, l, q1, q2⟩)
      have RR := RR fun i M fp x h hx h1 h2 => fz x h1 h2 (.inr fun j l q1 q2 => R1.mo i j M fp l x h q1 q2 hx)
      refine ⟨RR, (k2.trans k3).trans ⟨k5.kp, k5.nn, fun i l h => ⟨l, h⟩, fun x h1 h2 h3 => fz x h1 h2 (.inr h3), fun _ _ _ h => h⟩, k5.kp D _ Dd hD3, k5.pr D (by rw [hD3]; exact Option.some_ne_none _) hF3 hn4⟩
    refine ht H' F3 σ4 ρ4 _ _ R4 p4 fun H5 F5 c ρ5 e5 k5 R5 p5 => ?_
    cases c with
    | false =>
      obtain ⟨b1, b2, b3, b4⟩ := back e5 k5 R5 p5.1
      exact ⟨F5, acc, ws, e2.trans (s.ex.trans e5), b2, b1, b3, b4, r2.ex (s.ex.trans e5), p5.2⟩
    | true =>
      refine he H5 F5 σ4 ρ5 _ _ R5 p5 fun H6 F6 y dy ρ6 e6 k6 R6 r6 p6 => ?_
      obtain ⟨b1, b2, b3, b4⟩ := back (e5.trans e6) (k5.trans k6) R6 p6.1
      refine ⟨ws, b3, by have := (r2.len : ws.length = acc.length); rw [this]; exact sz_lt p6.2.1, F6, acc ++ [dy], ws ++ [y], e2.trans (s.ex.trans (e5.trans e6)), ?_, b1.updN D0 b4 hn1 ⟨_, b3⟩, upd_same, b4, (r2.ex (s.ex.trans (e5.trans e6))).app (.cons r6 .nil), p6.2.2⟩
      refine ⟨fun x o n h => ?_, fun x h => ?_, b2.ow, b2.pr, b2.mw⟩
      · have : x ≠ D := fun z => by rw [z, hD] at h; cases h
        rw [upd_ne this]; exact b2.kp x o n h
      · have : x ≠ D := fun z => h (by rw [z]; exact hD)
        rw [upd_ne this]; exact b2.nn x h
  · have e : i = xs.length := by omega
    subst e
    exact .inl ⟨w.st H2 _ (e2.trans R2.fh) (Nat.le_refl _), k H2 F2 D ws acc ρ1 (e1.trans e2) (k1.trans k2) R2 (k1.kp.back (R.toRelH.nd (k1.kp.back (fun z => Dd z) hD)) hD) hn1 hF2 hD2 r2 (fin acc I2)⟩
def startU (N : List Str) (ds : List D) : Env := ds.map Sl.val ++ List.replicate (N.length - ds.length) Sl.no
theorem startU_mu {N : List Str} {ds : List D} (i : Nat) (M : Mu) (fp : List Addr) : (startU N ds)[i]? ≠ some (.mu M fp) := fun e => by
  unfold startU at e
  by_cases c : i < ds.length
  · rw [List.getElem?_append_left (by simpa using c), List.getElem?_map] at e
    cases e1 : ds[i]? with
    | none => rw [e1] at e; cases e
    | some d' => rw [e1] at e; cases e
  · rw [List.getElem?_append_right (by simpa using c), List.getElem?_replicate] at e
    split at e <;> cases e
theorem rd_of_sim {K : PySem.W.Frag} {C : Addr} {up : UP} {N : List Str} {vs : List V} {H : Hp} {Q : VK} {E : XK} (S : ∀ B : Bs, B.K = K → B.C = C → SimS B ts us) (hl : ∀ ds P, up ds P → ds.length ≤ N.length) (hr : ∀ ds P, up ds P → us { nx := fun _ => P .non, rt := P } (startU N ds)) (h : spU K C up vs H Q E) :
    ts { nx := fun _ H' => Q .non H', rt := Q } (start N vs) H := by
  obtain ⟨dO, F, ds, P, R, r, hu, k⟩ := h
  have hlen := r.len
  have hN := hl ds P hu
  have val : ∀ (i : Nat) d, (startU N ds)[i]? = some (.val d) → ∃ v, (start N vs)[i]? = some (some v) ∧ Rep K C dO F v d := fun i d e => by
    unfold startU at e
    unfold L2.start
    by_cases c : i < ds.length
    · rw [List.getElem?_append_left (by simpa using c), List.getElem?_map] at e
      rw [List.getElem?_append_left (by simpa [hlen] using c), List.getElem?_map]
      cases e1 : ds[i]? with
      | none => rw [e1] at e; cases e
      | some d' =>
        rw [e1] at e
        cases e
        obtain ⟨v, h1, h2⟩ := r.get' e1
        exact ⟨v, by rw [h1]; rfl, h2⟩
    · rw [List.getElem?_append_right (by simpa using c), List.getElem?_replicate] at e
      split at e <;> cases e
  have noown : ∀ (i : Nat) l, (startU N ds)[i]? ≠ some (.own l) := fun i l e => by
    unfold startU at e
    by_cases c : i < ds.length
    · rw [List.getElem?_append_left (by simpa using c), List.getElem?_map] at e
      cases e1 : ds[i]? with
      | none => rw [e1] at e; cases e
      | some d' => rw [e1] at e; cases e
    · rw [List.getElem?_append_right (by simpa using c), List.getElem?_replicate] at e
      split at e <;> cases e
  have RF : RelF ⟨K, C, dO, H, F, []⟩ H F (start N vs) (startU N ds) := ⟨R, by unfold L2.start startU; simp [hlen], val, fun i l e => absurd e (noown i l), fun i j l m p e => absurd e (noown i l), fun i M fp e => absurd e (startU_mu i M fp), fun i j M fp l p e => absurd e (startU_mu i M fp), fun i j M N fp gp x n e => absurd e (startU_mu i M fp)⟩
  refine S ⟨K, C, dO, H, F, []⟩ rfl rfl H F _ _ _ _ RF (hr ds P hu) ⟨fun H' F' σ' ρ' e R' p => ?_, fun H' F' v d e R' rp p => k d H' F' v p R' rp, fun _ _ _ _ _ _ h => h.elim, fun _ _ _ _ _ _ h => h.elim⟩
  exact k .non H' F' .non p R'.toRelH .non
theorem len_of_sim {K : PySem.W.Frag} {C : Addr} {up : UP} {n : Nat} {vs : List V} {H : Hp} {Q : VK} {E : XK} (hl : ∀ ds P, up ds P → ds.length = n) (h : spU K C up vs H Q E) : vs.length = n := by
  obtain ⟨dO, F, ds, P, R, r, hu, k⟩ := h
  rw [r.len]; exact hl ds P hu
end
end TkL


namespace TkL
open PySem PySem.Spec PySem.Calls PyProof.Rows L2 Tk
def upEq : UP := fun ds P => ∃ r s, ds = [.row r, .row s] ∧ P (.bl (decide (r = s)))
def upText : UP := fun ds P => ∃ r, ds = [.row r] ∧ P (.str (rowText r))
def upParse : UP := fun ds P => ∃ z S, ds = [.cls, .str z] ∧ z.length ≤ 100000 ∧ parseSet z = some S ∧ ∀ q, RB q → (∀ t, q.has t = S t) → P (.row q)
def upBelow : UP := fun ds P => ∃ n, ds = [.src, .int n] ∧ 0 < n ∧ n < 1073741824 ∧ ∀ v, 0 ≤ v → v < n → P (.int v)
section
variable {K : PySem.W.Frag} {C : Addr} {dO : Option Addr} {H F H' : Hp}
theorem retE (R : RelH ⟨K, C, dO, H, F, []⟩ H F) (e : Ex H H') : RelH ⟨K, C, dO, H, F, []⟩ H' (growF F H H') := (St1.growE R e).relH R
theorem retK (R : RelH ⟨K, C, dO, H, F, []⟩ H F) {d : Addr} (hd : dO = some d) (e : Kp d H H') (dd : DAt d H') : RelH ⟨K, C, dO, H, F, []⟩ H' (growF F H H') := (St1.grow R (fun x o n h => e x o (fun z => n (by rw [z]; exact hd.symm)) h) (fun d' h => by
  have : d' = d := by
    have h' : dO = some d' := h
    rw [hd] at h'; exact (Option.some.inj h').symm
  rw [this]; exact dd)).relH R
theorem rowE (R : RelH ⟨K, C, dO, H, F, []⟩ H F) (e : Ex H H') {a : Addr} {r : RV} (h : RowAt K C H' a r) : RowAt K C (growF F H H') a r := growF_row R e.kpo (fun d h => by
  obtain ⟨ds, a, b⟩ := (R.dd d h).1
  exact ⟨ds, e _ _ a, b⟩) h
variable {vs : List V} {Q : VK} {E : XK}
theorem ad_eq (h : spU K C upEq vs H Q E) : spEq K C vs H Q E := by
  obtain ⟨dO, F, ds, P, R, r, ⟨x, t, rfl, p⟩, k⟩ := h
  cases r with | cons a r => cases r with | cons b r => cases r; cases a with | row ra => cases b with | row rb => exact ⟨_, _, _, _, rfl, ra.ex' R.fh, rb.ex' R.fh, k _ H _ _ p R .bl⟩
theorem ad_text (h : spU K C upText vs H Q E) : spText K C vs H Q E := by
  obtain ⟨dO, F, ds, P, R, r, ⟨x, rfl, p⟩, k⟩ := h
  cases r with | cons a r => cases r; cases a with | row ra => exact ⟨_, _, rfl, ra.ex' R.fh, fun H' e => k _ H' _ _ p (retE R e) .str⟩
theorem ad_parse (h : spU K C upParse vs H Q E) : spParse K C vs H Q E := by
  obtain ⟨dO, F, ds, P, R, r, ⟨z, S, rfl, h0, h1, p⟩, k⟩ := h
  cases r with | cons a r => cases r with | cons b r => cases r; cases a; cases b; exact ⟨_, S, rfl, h0, h1, fun H' a q e hc rq hq => k _ H' _ _ (p q rq.rb hq) (retE R e) (.row (rowE R e rq))⟩
theorem ad_below (h : spU K C upBelow vs H Q E) : spBelow vs H Q E := by
  obtain ⟨dO, F, ds, P, R, r, ⟨n, rfl, h0, h1, p⟩, k⟩ := h
  cases r with | cons a r => cases r with | cons b r => cases r; cases a with | src hd => cases b; exact ⟨_, _, rfl, (R.dd _ hd).1, h0, h1, fun H' v e dd v0 v1 => k _ H' _ _ (p v v0 v1) (retK R hd e dd) .int⟩
end
open Classical in
noncomputable def noTblT (T : List (Addr × Str)) (H1 : Hp) : Hp := fun y => if (∃ ps, H1 y = some (.tbl ps)) ∧ ∀ q, (y, q) ∉ T then none else H1 y
open Classical in
noncomputable def frzT (d : Addr) (H1 : Hp) : Hp := fun y => if y = d ∨ ∃ ps, H1 y = some (.tbl ps) then none else H1 y
theorem frzT_no {d : Addr} {H1 : Hp} (y : Addr) (c : y = d ∨ ∃ ps, H1 y = some (.tbl ps)) : frzT d H1 y = none := by unfold frzT; exact if_pos c
theorem frzT_at {d : Addr} {H1 : Hp} (y : Addr) (c : ¬ (y = d ∨ ∃ ps, H1 y = some (.tbl ps))) : frzT d H1 y = H1 y := by unfold frzT; exact if_neg c
theorem noTblT_ex {T : List (Addr × Str)} {H1 : Hp} : Ex (noTblT T H1) H1 := fun x o h => by
  unfold noTblT at h
  split at h
  · cases h
  · exact h
theorem noTblT_t {T : List (Addr × Str)} {H1 : Hp} (x : Addr) (ps : Array Value) (h : noTblT T H1 x = some (.tbl ps)) : ∃ q, (x, q) ∈ T := by
  unfold noTblT at h
  split at h
  · cases h
  · rename_i c
    exact Classical.byContradiction fun z => c ⟨⟨ps, h⟩, fun q hq => z ⟨q, hq⟩⟩
theorem noTblT_at {T : List (Addr × Str)} {H1 : Hp} {x : Addr} {o : HO} (h : H1 x = some o) (n : ∀ ps, o ≠ .tbl ps) : noTblT T H1 x = some o := by
  unfold noTblT
  rw [if_neg]
  · exact h
  · rintro ⟨⟨ps, z⟩, _⟩
    rw [h] at z
    exact n ps (Option.some.inj z)
theorem law_restT {K : PySem.W.Frag} {C : Addr} {T : List (Addr × Str)} {ts : TS} {us : US} {N : List Str} {n : Nat} {vs : List V} {H : Hp} {Q : VK} {E : XK} (S : ∀ B : Bs, B.K = K → B.C = C → B.T = T → SimS B ts us) (salt : Int) (hs : 0 ≤ salt ∧ salt < 1000)
    (hr : us { nx := fun _ => False, rt := fun d => d = .bl true } (.no :: .val .src :: List.replicate n .no)) (h : spLaw K vs H Q E) (hT : LamX.Tabs T H) (hN : N.length = n + 2) :
    tSeq (tAsg (tDef (spRandom K) E0 (tCons (tVar 0) (tCons (tC (.int salt)) tNil))) (gName 1)) ts { nx := fun _ H' => Q .non H', rt := Q } (L2.start N vs) H := by
  obtain ⟨p, ns, rfl, s, hz, h⟩ := h
  have e0 : L2.start N [V.ref p] = some (.ref p) :: none :: List.replicate n none := by
    unfold L2.start
    have : N.length - [V.ref p].length = n + 1 := by rw [hN]; rfl
    rw [this]; rfl
  rw [e0]
  refine x_seq (x_asg (x_def (x_cons (x_var (v := .ref p) rfl (x_cons (x_c (x_nil ?_)))))))
  refine ⟨p, ns, salt, rfl, s, hz, hs.1, hs.2, fun H1 d e1 hd D => ?_⟩
  refine x_name ?_
  show ts _ (some (.ref p) :: some (.ref d) :: List.replicate n none) H1
  have hT1 : LamX.Tabs T H1 := hT.ext e1
  have f1 := frzT_no (d := d) (H1 := H1)
  have f2 := frzT_at (d := d) (H1 := H1)
  generalize frzT d H1 = F at f1 f2
  have g1 := noTblT_ex (T := T) (H1 := H1)
  have g2 := noTblT_t (T := T) (H1 := H1)
  have g3 : ∀ {x : Addr} {o : HO}, H1 x = some o → (∀ ps, o ≠ .tbl ps) → noTblT T H1 x = some o := noTblT_at
  generalize noTblT T H1 = H0 at g1 g2 g3
  have hl : ∀ x o, H1 x = some o → F x = none → Mut C o := fun x o h1 h2 => by
    by_cases c : x = d ∨ ∃ ps, H1 x = some (.tbl ps)
    · rcases c with c | ⟨ps, c⟩
      · obtain ⟨ds, e, _⟩ := D
        rw [c, e] at h1; exact .inl ⟨_, (Option.some.inj h1).symm⟩
      · rw [h1] at c
        exact .inr (.inl ⟨ps, Option.some.inj c⟩)
    · rw [f2 x c, h1] at h2; cases h2
  have hx : Ex F H1 := fun x o h => by
    by_cases c : x = d ∨ ∃ ps, H1 x = some (.tbl ps)
    · rw [f1 x c] at h; cases h
    · rw [f2 x c] at h; exact h
  have R : RelH ⟨K, C, some d, H0, F, T⟩ H1 F := ⟨hx, Ex.refl _, fun _ _ h => h, hl, fun x o _ _ h => g1 x o h, fun d' e => by
    have e' : some d = some d' := e
    cases e'
    obtain ⟨ds, e, _⟩ := D
    have g4 := g3 e fun _ z => nomatch z
    show H0 d ≠ none
    rw [g4]; exact Option.some_ne_none _, fun d' e => by
    have e' : some d = some d' := e
    cases e'; exact ⟨D, f1 d (.inl rfl)⟩, hT1, fun q hq => by
    obtain ⟨ps, e, _⟩ := hT1 q hq
    exact f1 q.1 (.inr ⟨ps, e⟩), fun x ps e => by
    by_cases c : x = d ∨ ∃ ps, H1 x = some (.tbl ps)
    · rw [f1 x c] at e; cases e
    · rw [f2 x c] at e
      exact c (.inr ⟨ps, e⟩), fun _ => g2⟩
  have key : ∀ (m i : Nat) (s : Sl), (List.replicate m Sl.no)[i]? = some s → s = .no := fun m i s h => by
    rw [List.getElem?_replicate] at h
    split at h
    · exact (Option.some.inj h).symm
    · cases h
  have nm : ∀ (i : Nat) (M : Mu) (fp : List Addr), (Sl.no :: Sl.val TkL.D.src :: List.replicate n Sl.no)[i]? ≠ some (.mu M fp) := fun i M fp e => by
    match i, e with
    | 0, e => cases e
    | 1, e => cases e
    | i + 2, e => have := key n i _ e; cases this
  refine S ⟨K, C, some d, H0, F, T⟩ rfl rfl rfl H1 _ _ _ _ _ ⟨R, by simp, fun i x e => ?_, fun i l e => ?_, fun i j l m p e => ?_, fun i M fp e => absurd e (nm i M fp), fun i j M fp l p e => absurd e (nm i M fp), fun i j M N fp gp x n e => absurd e (nm i M fp)⟩ hr ⟨fun _ _ _ _ _ _ h => h.elim, fun H' F' v d' e R' rp z => ?_, fun _ _ _ _ _ _ h => h.elim, fun _ _ _ _ _ _ h => h.elim⟩
  · match i, e with
    | 0, e => cases e
    | 1, e => cases e; exact ⟨_, rfl, .src rfl⟩
    | i + 2, e => have := key n i _ e; cases this
  · match i, e with
    | 0, e => cases e
    | 1, e => cases e
    | i + 2, e => have := key n i _ e; cases this
  · match i, e with
    | 0, e => cases e
    | 1, e => cases e
    | i + 2, e => have := key n i _ e; cases this
  · subst z
    cases rp
    exact h H'
end TkL


namespace TkL
open PySem PySem.Spec PySem.Calls PyProof.Rows L2 Tk
section
variable {P : Program} {w : World} {K : PySem.W.Frag} {mg : Str → Option Value} {base : Heap} {CX : CXT} {k : Nat} {C : Addr} {m : Str} {sp sp' : Sp}
theorem PropN.imp (F : PropN P w K mg base CX k C m sp) (h : ∀ vs H Q E, sp' vs H Q E → sp vs H Q E) : PropN P w K mg base CX k C m sp' := by
  obtain ⟨p, g, fd, hp, d, b⟩ := F.ex
  exact ⟨p, g, fd, hp, d.imp h, b⟩
theorem CmN.imp (F : CmN P w K mg base CX k C m sp) (h : ∀ vs H Q E, sp' vs H Q E → sp vs H Q E) : CmN P w K mg base CX k C m sp' := by
  obtain ⟨mc, p, g, r, c, d⟩ := F.ex
  exact ⟨mc, p, g, r, c, d.imp h⟩
end
end TkL


namespace TkL
open PySem PySem.Spec PySem.Calls PyProof.Rows L2 Tk
mutual
def pd : D → Option PyData
  | .int i => some (.int i) | .bl b => some (.bool b) | .str s => some (.str s) | .non => some .none
  | .lst l => match pds l with | some x => some (.list x) | none => none
  | .tup l => match pds l with | some x => some (.tuple x) | none => none
  | _ => none
def pds : List D → Option (List PyData)
  | [] => some []
  | d :: ds => match pd d, pds ds with | some x, some xs => some (x :: xs) | _, _ => none
end
def qEqD : U2 := fun x y P => ∃ d e, pd x = some d ∧ pd y = some e ∧ SeqAt.shaped d = true ∧ SeqAt.shaped e = true ∧ P (.bl (PyData.eqv d e))
def qNeD : U2 := fun x y P => ∃ d e, pd x = some d ∧ pd y = some e ∧ SeqAt.shaped d = true ∧ SeqAt.shaped e = true ∧ P (.bl (!PyData.eqv d e))
section
variable {K : PySem.W.Frag} {C : Addr} {dO : Option Addr} {F H : Hp}
mutual
theorem Rep.dp (e : Ex F H) : ∀ {v : V} {d : D} {x : PyData}, Rep K C dO F v d → pd d = some x → Dp K H v x
  | _, _, _, .int, h => by cases h; exact .int _
  | _, _, _, .bl, h => by cases h; exact .bl _
  | _, _, _, .str, h => by cases h; exact .str _
  | _, _, _, .non, h => by cases h; exact .non
  | _, _, _, .cls, h => by cases h
  | _, _, _, .src _, h => by cases h
  | _, _, _, .row _, h => by cases h
  | _, _, _, .mrk _, h => by cases h
  | _, _, _, .dct _ _ _, h => by cases h
  | _, _, _, .tup (ds := ds) a r, h => by
    unfold pd at h
    cases e1 : pds ds with
    | none => rw [e1] at h; cases h
    | some xs => rw [e1] at h; cases h; exact .tup (e.sqT a) (Reps.dp e r e1)
  | _, _, _, .lst (ds := ds) a r, h => by
    unfold pd at h
    cases e1 : pds ds with
    | none => rw [e1] at h; cases h
    | some xs => rw [e1] at h; cases h; exact .lst (lOf (e _ _ a)) (Reps.dp e r e1)
theorem Reps.dp (e : Ex F H) : ∀ {vs : List V} {ds : List D} {xs : List PyData}, Reps K C dO F vs ds → pds ds = some xs → DpAll K H vs xs
  | _, _, _, .nil, h => by cases h; exact .nil
  | _, _, _, .cons (d := d) (ds := ds) a r, h => by
    unfold pds at h
    cases e1 : pd d with
    | none => rw [e1] at h; cases h
    | some x =>
      cases e2 : pds ds with
      | none => rw [e1, e2] at h; cases h
      | some xs => rw [e1, e2] at h; cases h; exact .cons (Rep.dp e a e1) (Reps.dp e r e2)
end
end
section
variable {B : Bs} {t ta tb tc te td : TE} {u ua ub uc ue ud : UE} {tt tt' : TT} {ut ut' : UT} {A : TA} {U : UA}
theorem RepW.dp {H F : Hp} {v : V} {d : D} {x : PyData} (R : RelH B H F) (r : RepW B F H v d) (e : pd d = some x) : Dp B.K H v x := by
  cases d with
  | lst l =>
    obtain ⟨p, vs, rfl, _, a, b⟩ := r
    unfold pd at e
    cases e1 : pds l with
    | none => rw [e1] at e; cases e
    | some xs => rw [e1] at e; cases e; exact .lst (lOf a) (Reps.dp R.fh b e1)
  | dct ks l => cases e
  | _ => exact Rep.dp R.fh r e
theorem s2_EqD : Sim2 B (rEqD B.K) qEqD := fun H F x y dx dy Q P R rx ry hq k => by
  obtain ⟨d, e, h1, h2, h3, h4, p⟩ := hq
  exact ⟨d, e, rx.dp R h1, ry.dp R h2, h3, h4, k H F _ _ .refl .bl p⟩
theorem s2_NeD : Sim2 B (rNeD B.K) qNeD := fun H F x y dx dy Q P R rx ry hq k => by
  obtain ⟨d, e, h1, h2, h3, h4, p⟩ := hq
  exact ⟨d, e, rx.dp R h1, ry.dp R h2, h3, h4, k H F _ _ .refl .bl p⟩
def qRepT : U2 := fun x y P => match x, y with | .tup l, .int k => (l ≠ [] ∧ 2 ≤ k ∧ k ≤ 1000 ∧ l.length ≤ 1000) ∧ P (.tup (List.replicate k.toNat l).flatten) | _, _ => False
theorem s2_RepT : Sim2 B (rRepT B.K) qRepT := fun H F x y dx dy Q P R rx ry hq k => by
  unfold qRepT at hq
  split at hq
  · obtain ⟨p, vs, rfl, a, b, _⟩ := rx.tup R
    cases ry
    refine ⟨p, _, vs, rfl, rfl, a, fun z => ?_, hq.1.2.1, hq.1.2.2.1, by rw [b.len]; exact hq.1.2.2.2, fun n hn => ?_⟩
    · subst z; cases b; exact hq.1.1 rfl
    · obtain ⟨s, r⟩ := new_tup R hn (b.rep _)
      exact k _ _ _ _ s r hq.2
  · exact hq.elim
def qNeg : D → (D → Prop) → Prop := fun x P => match x with | .int i => P (.int (-i)) | _ => False
def gSumT : UP := fun ds P => match ds with | [.tup l] => ∃ ns : List Int, l = iL ns ∧ P (.int ns.sum) | _ => False
def uNotO (up : UP) (a : UE) : UE := fun ρ P => a ρ fun x ρ1 => match x with | .row r => up [.row r] (fun d => match d with | .bl c => P (.bl (!c)) ρ1 | _ => False) | _ => False
def uGUnl (n : Nat) (b : UGs) : UG := fun d ρ P => match d with | .lst ds => ds.length = n ∧ b ds ρ P | _ => False
def rngCD (lo c : Int) (n : Nat) : List D := (List.range n).map fun (k : Nat) => D.int (lo + (k : Int) * c)
def uIRng3 (a : UA) : UI := fun ρ P => a ρ fun ds ρ1 => ∃ (i j c : Int) (n : Nat), ds = [.int i, .int j, .int c] ∧ RgC i j c n ∧ P (rngCD i c n) ρ1
def uPar_vo (i j : Nat) (a : UE) : US := fun P ρ => a ρ fun d ρ1 => P.nx ((ρ1.set i (.val d)).set j (.own []))
def uPar_ov (i j : Nat) (a : UE) : US := fun P ρ => a ρ fun d ρ1 => P.nx ((ρ1.set i (.own [])).set j (.val d))
end
section
variable {P : UEnds} {ρ : Env} {a b c : UE} {q q' : U2} {s t : US} {k : UT} {g : UG} {A : UA} {up g' : UP} {i j l : Nat} {d e : D} {ds : List D} {Q : D → Env → Prop} {QA : List D → Env → Prop} {QT : Bool → Env → Prop}
theorem e_seq : uSeq s t P ρ = s { P with nx := t P } ρ := rfl
theorem e_next : uNext P ρ = P.nx ρ := rfl
theorem e_break : uBreak P ρ = P.bk ρ := rfl
theorem e_cont : uCont P ρ = P.ct ρ := rfl
theorem e_asg : uAsg a g P ρ = a ρ fun d ρ1 => g d ρ1 P.nx := rfl
theorem e_name {Qe : Env → Prop} : uName i d ρ Qe = Qe (ρ.set i (.val d)) := rfl
theorem e_asgO : uAsgO a i P ρ = a ρ fun d ρ1 => match d with | .lst l => P.nx (ρ1.set i (.own l)) | _ => False := rfl
theorem e_par : uPar i j A P ρ = A ρ fun ds ρ1 => match ds with | [x, y] => P.nx ((ρ1.set i (.val x)).set j (.val y)) | _ => False := rfl
theorem e_par3 : uPar3 i j l A P ρ = A ρ fun ds ρ1 => match ds with | [x, y, z] => P.nx (((ρ1.set i (.val x)).set j (.val y)).set l (.val z)) | _ => False := rfl
theorem e_par_vo : uPar_vo i j a P ρ = a ρ fun d ρ1 => P.nx ((ρ1.set i (.val d)).set j (.own [])) := rfl
theorem e_drop : uDrop a P ρ = a ρ fun _ ρ1 => P.nx ρ1 := rfl
theorem e_ret : uRet a P ρ = a ρ fun d _ => P.rt d := rfl
theorem e_retN : uRetN P ρ = P.rt .non := rfl
theorem e_ifS : uIfS k s t P ρ = k ρ fun k ρ1 => if k = true then s P ρ1 else t P ρ1 := rfl
theorem e_c : uC d ρ Q = Q d ρ := rfl
theorem e_op : uOp q a b ρ Q = a ρ fun x ρ1 => b ρ1 fun y ρ2 => q x y fun z => Q z ρ2 := rfl
theorem e_un {q : D → (D → Prop) → Prop} : uUn q a ρ Q = a ρ fun x ρ1 => q x fun z => Q z ρ1 := rfl
theorem e_nil : uNil ρ QA = QA [] ρ := rfl
theorem e_cons : uCons a A ρ QA = a ρ fun x ρ1 => A ρ1 fun xs ρ2 => QA (x :: xs) ρ2 := rfl
theorem e_cb : uCB g' A ρ Q = A ρ fun xs ρ1 => g' xs fun z => Q z ρ1 := rfl
theorem e_if : uIf k a b ρ Q = k ρ fun k ρ1 => if k = true then a ρ1 Q else b ρ1 Q := rfl
theorem e_andV : uAndV a b ρ Q = a ρ fun x ρ1 => ∃ c, x = .bl c ∧ if c = true then b ρ1 Q else Q (.bl false) ρ1 := rfl
theorem e_orV : uOrV a b ρ Q = a ρ fun x ρ1 => ∃ c, x = .bl c ∧ if c = true then Q (.bl true) ρ1 else b ρ1 Q := rfl
theorem e_notV : uNotV a ρ Q = a ρ fun x ρ1 => ∃ c, x = .bl c ∧ Q (.bl (!c)) ρ1 := rfl
theorem e_B : uB a ρ QT = a ρ fun x ρ1 => ∃ c, x = .bl c ∧ QT c ρ1 := rfl
theorem e_and {k' : UT} : uAnd k k' ρ QT = k ρ fun c ρ1 => if c = true then k' ρ1 QT else QT false ρ1 := rfl
theorem e_or {k' : UT} : uOr k k' ρ QT = k ρ fun c ρ1 => if c = true then QT true ρ1 else k' ρ1 QT := rfl
theorem e_not : uNot k ρ QT = k ρ fun c ρ1 => QT (!c) ρ1 := rfl
theorem e_yes : uYes ρ QT = QT true ρ := rfl
theorem e_chain : uChain q q' a b c ρ Q = a ρ fun x ρ1 => b ρ1 fun y ρ2 => q x y fun z => ∃ k, z = .bl k ∧ if k = true then c ρ2 fun w ρ3 => q' y w fun z => Q z ρ3 else Q (.bl false) ρ2 := rfl
theorem e_tup : uTup A ρ Q = A ρ fun xs ρ1 => xs.length ≤ 1000000 ∧ Q (.tup xs) ρ1 := rfl
theorem e_lst : uLst A ρ Q = A ρ fun xs ρ1 => xs.length ≤ 1000000 ∧ Q (.lst xs) ρ1 := rfl
theorem e_def : uDef up A ρ Q = A ρ fun xs ρ1 => up xs fun z => Q z ρ1 := rfl
theorem e_row : uRow up a A ρ Q = a ρ fun y ρ1 => (∃ r, y = .row r) ∧ A ρ1 fun xs ρ2 => up (y :: xs) fun z => Q z ρ2 := rfl
theorem e_prp : uPrp up a ρ Q = a ρ fun y ρ1 => (∃ r, y = .row r) ∧ up [y] fun z => Q z ρ1 := rfl
theorem e_cm : uCM up a A ρ Q = a ρ fun y ρ1 => y = .cls ∧ A ρ1 fun xs ρ2 => up (.cls :: xs) fun z => Q z ρ2 := rfl
theorem e_tru : uTru a ρ QT = a ρ fun x ρ1 => match truD x with | some k => QT k ρ1 | none => False := rfl
theorem e_notT : uNotT a ρ Q = a ρ fun x ρ1 => match truD x with | some k => Q (.bl (!k)) ρ1 | none => False := rfl
theorem e_truO : uTruO up a ρ QT = a ρ fun x ρ1 => match x with | .row r => up [.row r] (fun d => match d with | .bl c => QT c ρ1 | _ => False) | _ => False := rfl
theorem e_notO : uNotO up a ρ Q = a ρ fun x ρ1 => match x with | .row r => up [.row r] (fun d => match d with | .bl c => Q (.bl (!c)) ρ1 | _ => False) | _ => False := rfl
theorem e_mrk {neg : Bool} : uMrk neg a b ρ Q = a ρ fun x ρ1 => b ρ1 fun y ρ2 => qMrk neg x y fun z => Q z ρ2 := rfl
theorem e_part {QO : Option Int → Env → Prop} : uPart a ρ QO = a ρ fun x ρ1 => match x with | .int i => QO (some i) ρ1 | _ => False := rfl
theorem e_noPart {QO : Option Int → Env → Prop} : uNoPart ρ QO = QO none ρ := rfl
theorem e_slL {u v : UO} : uSlL a u v ρ Q = a ρ fun x ρ1 => u ρ1 fun lo ρ2 => v ρ2 fun hi ρ3 => match x with | .lst xs => Q (.lst (cutD xs lo hi)) ρ3 | _ => False := rfl
theorem e_slT {u v : UO} : uSlT a u v ρ Q = a ρ fun x ρ1 => u ρ1 fun lo ρ2 => v ρ2 fun hi ρ3 => match x with | .tup xs => Q (.tup (cutD xs lo hi)) ρ3 | _ => False := rfl
theorem e_bms {gs : Str → UP} : uBMS gs a A ρ Q = a ρ fun x ρ1 => match x with | .str z => A ρ1 fun xs ρ2 => gs z xs fun d => Q d ρ2 | _ => False := rfl
theorem e_gtup {n : Nat} {gs : UGs} {Qe : Env → Prop} : uGTup n gs d ρ Qe = match d with | .tup ds => ds.length = n ∧ gs ds ρ Qe | _ => False := rfl
theorem e_gunl {n : Nat} {gs : UGs} {Qe : Env → Prop} : uGUnl n gs d ρ Qe = match d with | .lst ds => ds.length = n ∧ gs ds ρ Qe | _ => False := rfl
theorem e_app : uApp i a P ρ = ((∃ l0, ρ[i]? = some (.own l0)) ∧ a ρ fun d ρ1 => ∃ l, ρ1[i]? = some (.own l) ∧ l.length < 1000000 ∧ P.nx (ρ1.set i (.own (l ++ [d])))) := rfl
theorem e_irng1 {Qi : List D → Env → Prop} : uIRng1 A ρ Qi = A ρ fun ds ρ1 => match ds with | [.int j] => (-(2 ^ 62) ≤ j ∧ j < 2 ^ 62) ∧ Qi (rngD 0 j.toNat) ρ1 | _ => False := rfl
theorem e_irng2 {Qi : List D → Env → Prop} : uIRng2 A ρ Qi = A ρ fun ds ρ1 => match ds with | [.int i, .int j] => (-(2 ^ 62) ≤ i ∧ i < 2 ^ 62 ∧ -(2 ^ 62) ≤ j ∧ j < 2 ^ 62) ∧ Qi (rngD i (j - i).toNat) ρ1 | _ => False := rfl
theorem e_il {Qi : List D → Env → Prop} : uIL a ρ Qi = a ρ fun d ρ1 => match d with | .lst l => Qi l ρ1 | _ => False := rfl
theorem e_it {Qi : List D → Env → Prop} : uIT a ρ Qi = a ρ fun d ρ1 => match d with | .tup l => Qi l ρ1 | _ => False := rfl
theorem e_qI {C : Int → Int → Prop} {h : Int → Int → D} {m n : Int} {P : D → Prop} : qI C h (.int m) (.int n) P = (C m n ∧ P (h m n)) := rfl
theorem e_qI0 {h : Int → Int → D} {m n : Int} {P : D → Prop} : qI0 h (.int m) (.int n) P = P (h m n) := rfl
theorem e_exB {P : Bool → Prop} {k : Bool} : (∃ c, D.bl k = .bl c ∧ P c) ↔ P k := ⟨fun ⟨c, e, h⟩ => by cases e; exact h, fun h => ⟨k, rfl, h⟩⟩
theorem e_exR {r : RV} : (∃ s, D.row r = .row s) ↔ True := ⟨fun _ => trivial, fun _ => ⟨r, rfl⟩⟩
theorem e_qUpR {r s : RV} {P : D → Prop} : qUpR up (.row r) (.row s) P = up [.row r, .row s] P := rfl
theorem e_qUpI {r : RV} {n : Int} {P : D → Prop} : qUpI up (.row r) (.int n) P = up [.row r, .int n] P := rfl
theorem e_qUpN {r s : RV} {P : D → Prop} : qUpN up (.row r) (.row s) P = up [.row r, .row s] (fun d => match d with | .bl c => P (.bl (!c)) | _ => False) := rfl
theorem e_qEqI {m n : Int} {P : D → Prop} : qEq (.int m) (.int n) P ↔ P (.bl (decide (m = n))) := by
  unfold qEq; simp [toV, scal]
theorem e_qNeI {m n : Int} {P : D → Prop} : qNe (.int m) (.int n) P ↔ P (.bl (!decide (m = n))) := by
  unfold qNe; simp [toV, scal]
theorem e_qEqB {m n : Bool} {P : D → Prop} : qEq (.bl m) (.bl n) P ↔ P (.bl (decide (m = n))) := by
  unfold qEq; simp [toV, scal]
theorem e_qNeB {m n : Bool} {P : D → Prop} : qNe (.bl m) (.bl n) P ↔ P (.bl (!decide (m = n))) := by
  unfold qNe; simp [toV, scal]
theorem e_qEqS {m n : Str} {P : D → Prop} : qEq (.str m) (.str n) P ↔ P (.bl (decide (m = n))) := by
  unfold qEq; simp [toV, scal]
theorem e_qCat {x y : List D} {P : D → Prop} : qCat (.lst x) (.lst y) P = (x.length + y.length ≤ 1000000 ∧ P (.lst (x ++ y))) := rfl
theorem e_qCatA {x y : List D} {P : D → Prop} : qCatA (.tup x) (.tup y) P = (x.length + y.length ≤ 1000000 ∧ P (.tup (x ++ y))) := rfl
theorem e_qIxL {x : List D} {n : Int} {P : D → Prop} : qIxL (.lst x) (.int n) P = ∃ d, atI x n = some d ∧ P d := rfl
theorem e_qIxT {x : List D} {n : Int} {P : D → Prop} : qIxT (.tup x) (.int n) P = ∃ d, atI x n = some d ∧ P d := rfl
theorem e_len {x : List D} {P : D → Prop} : gLen [.lst x] P = P (.int x.length) := rfl
theorem e_lenT {x : List D} {P : D → Prop} : gLen [.tup x] P = P (.int x.length) := rfl
theorem e_int {n : Int} {P : D → Prop} : gInt [.int n] P = P (.int n) := rfl
theorem e_intB {n : Bool} {P : D → Prop} : gInt [.bl n] P = P (.int (if n then 1 else 0)) := rfl
theorem e_tuple {x : List D} {P : D → Prop} : gTuple [.lst x] P = (x.length ≤ 1000000 ∧ P (.tup x)) := rfl
theorem e_list {x : List D} {P : D → Prop} : gList [.tup x] P = (x.length ≤ 1000000 ∧ P (.lst x)) := rfl
theorem e_listL {x : List D} {P : D → Prop} : gList [.lst x] P = (x.length ≤ 1000000 ∧ P (.lst x)) := rfl
theorem iL_inj {x y : List Int} (e : iL x = iL y) : x = y := (List.map_inj_right (fun a b h => by cases h; rfl)).mp e
theorem e_max2 {m n : Int} {P : D → Prop} : gMax2 [.int m, .int n] P = P (.int (if n > m then n else m)) := rfl
theorem e_min2 {m n : Int} {P : D → Prop} : gMin2 [.int m, .int n] P = P (.int (if n < m then n else m)) := rfl
theorem e_qMrk {t : Int} {ks : List Int} {P : D → Prop} : qMrk false (.int t) (.mrk ks) P = P (.bl (decide (t ∈ ks))) := rfl
theorem e_qMrkN {t : Int} {ks : List Int} {P : D → Prop} : qMrk true (.int t) (.mrk ks) P = P (.bl (!decide (t ∈ ks))) := rfl
theorem iL_len {l : List Int} : (iL l).length = l.length := List.length_map _
end
end TkL


namespace TkL
open PySem PySem.Spec PySem.Calls PyProof.Rows L2 Tk
def LC (g : UG) (ct : UT) (el : UE) (vs : List Nat) (P : D → Env → Prop) (xs : List D) (ρ1 : Env) : Prop := ∃ I : Nat → List D → Prop, I 0 [] ∧
  (∀ i x acc, xs[i]? = some x → I i acc → g x (wipeU ρ1 vs) fun ρ2 => ct ρ2 fun b ρ3 => if b = true then el ρ3 fun y ρ4 => wipeU ρ4 vs = wipeU ρ1 vs ∧ acc.length < 1000000 ∧ I (i + 1) (acc ++ [y]) else wipeU ρ3 vs = wipeU ρ1 vs ∧ I (i + 1) acc) ∧
  ∀ acc, I xs.length acc → P (.lst acc) ρ1
def FORU (g : UG) (b : US) (P : UEnds) (xs : List D) (ρ1 : Env) : Prop := ∃ I : Nat → Env → Prop, I 0 ρ1 ∧ (∀ i x ρ, xs[i]? = some x → I i ρ → g x ρ fun ρ2 => b { P with nx := I (i + 1), ct := I (i + 1), bk := P.nx } ρ2) ∧ ∀ ρ, I xs.length ρ → P.nx ρ
theorem e_lc {it : UI} {g : UG} {ct : UT} {el : UE} {vs : List Nat} {ρ : Env} {P : D → Env → Prop} : uLc it g ct el vs ρ P = it ρ fun xs ρ1 => LC g ct el vs P xs ρ1 := rfl
theorem e_for {it : UI} {g : UG} {b : US} {ρ : Env} {P : UEnds} : uFor it g b P ρ = it ρ fun xs ρ1 => FORU g b P xs ρ1 := rfl
def LCT (g : UG) (ct : UT) (el : UE) (vs : List Nat) (ρ1 : Env) (x : D) (acc : List D) (R : List D → Prop) : Prop := g x (wipeU ρ1 vs) fun ρ2 => ct ρ2 fun b ρ3 => if b = true then el ρ3 fun y ρ4 => wipeU ρ4 vs = wipeU ρ1 vs ∧ acc.length < 1000000 ∧ R (acc ++ [y]) else wipeU ρ3 vs = wipeU ρ1 vs ∧ R acc
section
variable {g : UG} {ct : UT} {el : UE} {vs : List Nat} {ρ1 : Env} {P : D → Env → Prop} {xs : List D}
theorem lc_inv (I : Nat → List D → Prop) (h0 : I 0 []) (hs : ∀ i x acc, xs[i]? = some x → I i acc → LCT g ct el vs ρ1 x acc (I (i + 1))) (hd : ∀ acc, I xs.length acc → P (.lst acc) ρ1) : LC g ct el vs P xs ρ1 := ⟨I, h0, hs, hd⟩
end
section
variable {g : UG} {b : US} {P : UEnds} {xs : List D} {ρ1 : Env}
theorem for_inv (I : Nat → Env → Prop) (h0 : I 0 ρ1) (hs : ∀ i x ρ, xs[i]? = some x → I i ρ → g x ρ fun ρ2 => b { P with nx := I (i + 1), ct := I (i + 1), bk := P.nx } ρ2) (hd : ∀ ρ, I xs.length ρ → P.nx ρ) : FORU g b P xs ρ1 := ⟨I, h0, hs, hd⟩
end
def pI (l : List Int) : List PyData := l.map PyData.int
theorem pds_iL : ∀ l : List Int, pds (iL l) = some (pI l)
  | [] => by simp [iL, pds, pI]
  | a :: l => by
    have ih := pds_iL l
    show pds (.int a :: iL l) = _
    simp only [pds, pd, ih]
    rfl
theorem eqvAll_pI : ∀ l m : List Int, PyData.eqvAll (pI l) (pI m) = decide (l = m)
  | [], [] => by simp [pI, PyData.eqvAll]
  | [], b :: m => by simp [pI, PyData.eqvAll]
  | a :: l, [] => by simp [pI, PyData.eqvAll]
  | a :: l, b :: m => by
    have ih := eqvAll_pI l m
    show PyData.eqvAll (.int a :: pI l) (.int b :: pI m) = _
    rw [PyData.eqvAll, ih, PyData.eqv, Bool.eq_iff_iff]
    simp
theorem canAll_pI : ∀ l : List Int, PyData.canLayAll0 (pI l) = true
  | [] => by simp [pI, PyData.canLayAll0]
  | a :: l => by
    have ih := canAll_pI l
    show PyData.canLayAll0 (.int a :: pI l) = true
    rw [PyData.canLayAll0, ih, PyData.canLay0]; rfl
theorem depAll_pI : ∀ l : List Int, PyData.depthAll (pI l) = 0
  | [] => by simp [pI, PyData.depthAll]
  | a :: l => by
    have ih := depAll_pI l
    show PyData.depthAll (.int a :: pI l) = 0
    rw [PyData.depthAll, ih, PyData.depth]; rfl
theorem shaped_tI {l : List Int} : SeqAt.shaped (.tuple (pI l)) = true := by
  unfold SeqAt.shaped
  rw [PyData.canLay0, canAll_pI, PyData.depth, depAll_pI]; rfl
theorem pd_tI {l : List Int} : pd (.tup (iL l)) = some (.tuple (pI l)) := by unfold pd; rw [pds_iL]
section
variable {l m : List Int} {P : D → Prop}
theorem e_eqT : qEqD (.tup (iL l)) (.tup (iL m)) P ↔ P (.bl (decide (l = m))) := by
  unfold qEqD
  constructor
  · rintro ⟨d, e, h1, h2, _, _, h⟩
    rw [pd_tI] at h1 h2; cases h1; cases h2
    rw [PyData.eqv, eqvAll_pI] at h; exact h
  · intro h
    refine ⟨_, _, pd_tI, pd_tI, shaped_tI, shaped_tI, ?_⟩
    rw [PyData.eqv, eqvAll_pI]; exact h
theorem e_neT : qNeD (.tup (iL l)) (.tup (iL m)) P ↔ P (.bl (!decide (l = m))) := by
  unfold qNeD
  constructor
  · rintro ⟨d, e, h1, h2, _, _, h⟩
    rw [pd_tI] at h1 h2; cases h1; cases h2
    rw [PyData.eqv, eqvAll_pI] at h; exact h
  · intro h
    refine ⟨_, _, pd_tI, pd_tI, shaped_tI, shaped_tI, ?_⟩
    rw [PyData.eqv, eqvAll_pI]; exact h
theorem e_eqT0 : qEqD (.tup (iL l)) (.tup []) P ↔ P (.bl (decide (l = []))) := e_eqT (m := [])
theorem e_eqLB {l m : List Bool} : qEqD (.lst (bL l)) (.lst (bL m)) P ↔ P (.bl (decide (l = m))) := by
  have a : ∀ l : List Bool, pds (bL l) = some (l.map PyData.bool) := fun l => by
    induction l with
    | nil => simp [bL, pds]
    | cons a l ih => show pds (.bl a :: bL l) = _; simp only [pds, pd, ih]; rfl
  have b : ∀ l : List Bool, pd (.lst (bL l)) = some (.list (l.map PyData.bool)) := fun l => by unfold pd; rw [a]
  have c : ∀ l : List Bool, SeqAt.shaped (.list (l.map PyData.bool)) = true := fun l => by
    have c1 : ∀ l : List Bool, PyData.canLayAll0 (l.map PyData.bool) = true := fun l => by
      induction l with
      | nil => simp [PyData.canLayAll0]
      | cons a l ih => rw [List.map_cons, PyData.canLayAll0, ih, PyData.canLay0]; rfl
    have c2 : ∀ l : List Bool, PyData.depthAll (l.map PyData.bool) = 0 := fun l => by
      induction l with
      | nil => simp [PyData.depthAll]
      | cons a l ih => rw [List.map_cons, PyData.depthAll, ih, PyData.depth]; rfl
    unfold SeqAt.shaped
    rw [PyData.canLay0, c1, PyData.depth, c2]; rfl
  have d : ∀ l m : List Bool, PyData.eqvAll (l.map PyData.bool) (m.map PyData.bool) = decide (l = m) := fun l => by
    induction l with
    | nil => intro m; cases m <;> simp [PyData.eqvAll]
    | cons a l ih => intro m; cases m with
      | nil => simp [PyData.eqvAll]
      | cons b m => rw [List.map_cons, List.map_cons, PyData.eqvAll, ih, PyData.eqv, Bool.eq_iff_iff]; simp
  unfold qEqD
  constructor
  · rintro ⟨x, e, h1, h2, _, _, h⟩
    rw [b] at h1 h2; cases h1; cases h2
    rw [PyData.eqv, d] at h; exact h
  · intro h
    refine ⟨_, _, b l, b m, c l, c m, ?_⟩
    rw [PyData.eqv, d]; exact h
theorem e_neLB {l m : List Bool} : qNeD (.lst (bL l)) (.lst (bL m)) P ↔ P (.bl (!decide (l = m))) := by
  have z := e_eqLB (l := l) (m := m) (P := fun d => match d with | .bl c => P (.bl (!c)) | _ => False)
  refine Iff.trans ?_ z
  unfold qNeD qEqD
  exact Iff.rfl
end
theorem atI_c {l : List D} {n : Nat} {d : D} (h : l[n]? = some d) : atI l (n : Int) = some d := by
  have hn := lt_of_get h
  unfold atI ixN
  rw [if_pos (Int.natCast_nonneg n), if_pos (by omega)]
  show l[(n : Int).toNat]? = _
  rw [Int.toNat_natCast]; exact h
theorem e_neg {n : Int} {P : D → Prop} : qNeg (.int n) P = P (.int (-n)) := rfl
end TkL


namespace TkL
open PySem PySem.Spec PySem.Calls PyProof.Rows L2 Tk
section
variable {d : D} {l : List D} {ρ : Env} {Q : D → Env → Prop} {a0 a1 a2 a3 a4 a5 a6 a7 a8 a9 a10 a11 a12 a13 a14 a15 a16 a17 a18 a19 a20 a21 a22 a23 a24 a25 a26 a27 a28 a29 a30 a31 a32 a33 : Sl}
theorem ev_v0 : uVar 0 (Sl.val d :: ρ) Q = Q d (Sl.val d :: ρ) := rfl
theorem ev_o0 : uVar 0 (Sl.own l :: ρ) Q = Q (.lst l) (Sl.own l :: ρ) := rfl
theorem ev_p0 : uPer 0 (Sl.val d :: ρ) Q = Q d (Sl.val d :: ρ) := rfl
theorem ev_q0 : uPer 0 (Sl.own l :: ρ) Q = Q (.lst l) (Sl.val (.lst l) :: ρ) := rfl
theorem ev_v1 : uVar 1 (a0 :: Sl.val d :: ρ) Q = Q d (a0 :: Sl.val d :: ρ) := rfl
theorem ev_o1 : uVar 1 (a0 :: Sl.own l :: ρ) Q = Q (.lst l) (a0 :: Sl.own l :: ρ) := rfl
theorem ev_p1 : uPer 1 (a0 :: Sl.val d :: ρ) Q = Q d (a0 :: Sl.val d :: ρ) := rfl
theorem ev_q1 : uPer 1 (a0 :: Sl.own l :: ρ) Q = Q (.lst l) (a0 :: Sl.val (.lst l) :: ρ) := rfl
theorem ev_v2 : uVar 2 (a0 :: a1 :: Sl.val d :: ρ) Q = Q d (a0 :: a1 :: Sl.val d :: ρ) := rfl
theorem ev_o2 : uVar 2 (a0 :: a1 :: Sl.own l :: ρ) Q = Q (.lst l) (a0 :: a1 :: Sl.own l :: ρ) := rfl
theorem ev_p2 : uPer 2 (a0 :: a1 :: Sl.val d :: ρ) Q = Q d (a0 :: a1 :: Sl.val d :: ρ) := rfl
theorem ev_q2 : uPer 2 (a0 :: a1 :: Sl.own l :: ρ) Q = Q (.lst l) (a0 :: a1 :: Sl.val (.lst l) :: ρ) := rfl
theorem ev_v3 : uVar 3 (a0 :: a1 :: a2 :: Sl.val d :: ρ) Q = Q d (a0 :: a1 :: a2 :: Sl.val d :: ρ) := rfl
theorem ev_o3 : uVar 3 (a0 :: a1 :: a2 :: Sl.own l :: ρ) Q = Q (.lst l) (a0 :: a1 :: a2 :: Sl.own l :: ρ) := rfl
theorem ev_p3 : uPer 3 (a0 :: a1 :: a2 :: Sl.val d :: ρ) Q = Q d (a0 :: a1 :: a2 :: Sl.val d :: ρ) := rfl
theorem ev_q3 : uPer 3 (a0 :: a1 :: a2 :: Sl.own l :: ρ) Q = Q (.lst l) (a0 :: a1 :: a2 :: Sl.val (.lst l) :: ρ) := rfl
theorem ev_v4 : uVar 4 (a0 :: a1 :: a2 :: a3 :: Sl.val d :: ρ) Q = Q d (a0 :: a1 :: a2 :: a3 :: Sl.val d :: ρ) := rfl
theorem ev_o4 : uVar 4 (a0 :: a1 :: a2 :: a3 :: Sl.own l :: ρ) Q = Q (.lst l) (a0 :: a1 :: a2 :: a3 :: Sl.own l :: ρ) := rfl
theorem ev_p4 : uPer 4 (a0 :: a1 :: a2 :: a3 :: Sl.val d :: ρ) Q = Q d (a0 :: a1 :: a2 :: a3 :: Sl.val d :: ρ) := rfl
theorem ev_q4 : uPer 4 (a0 :: a1 :: a2 :: a3 :: Sl.own l :: ρ) Q = Q (.lst l) (a0 :: a1 :: a2 :: a3 :: Sl.val (.lst l) :: ρ) := rfl
theorem ev_v5 : uVar 5 (a0 :: a1 :: a2 :: a3 :: a4 :: Sl.val d :: ρ) Q = Q d (a0 :: a1 :: a2 :: a3 :: a4 :: Sl.val d :: ρ) := rfl
theorem ev_o5 : uVar 5 (a0 :: a1 :: a2 :: a3 :: a4 :: Sl.own l :: ρ) Q = Q (.lst l) (a0 :: a1 :: a2 :: a3 :: a4 :: Sl.own l :: ρ) := rfl
theorem ev_p5 : uPer 5 (a0 :: a1 :: a2 :: a3 :: a4 :: Sl.val d :: ρ) Q = Q d (a0 :: a1 :: a2 :: a3 :: a4 :: Sl.val d :: ρ) := rfl
theorem ev_q5 : uPer 5 (a0 :: a1 :: a2 :: a3 :: a4 :: Sl.own l :: ρ) Q = Q (.lst l) (a0 :: a1 :: a2 :: a3 :: a4 :: Sl.val (.lst l) :: ρ) := rfl
theorem ev_v6 : uVar 6 (a0 :: a1 :: a2 :: a3 :: a4 :: a5 :: Sl.val d :: ρ) Q = Q d (a0 :: a1 :: a2 :: a3 :: a4 :: a5 :: Sl.val d :: ρ) := rfl
theorem ev_o6 : uVar 6 (a0 :: a1 :: a2 :: a3 :: a4 :: a5 :: Sl.own l :: ρ) Q = Q (.lst l) (a0 :: a1 :: a2 :: a3 :: a4 :: a5 :: Sl.own l :: ρ) := rfl
theorem ev_p6 : uPer 6 (a0 :: a1 :: a2 :: a3 :: a4 :: a5 :: Sl.val d :: ρ) Q = Q d (a0 :: a1 :: a2 :: a3 :: a4 :: a5 :: Sl.val d :: ρ) := rfl
theorem ev_q6 : uPer 6 (a0 :: a1 :: a2 :: a3 :: a4 :: a5 :: Sl.own l :: ρ) Q = Q (.lst l) (a0 :: a1 :: a2 :: a3 :: a4 :: a5 :: Sl.val (.lst l) :: ρ) := rfl
theorem ev_v7 : uVar 7 (a0 :: a1 :: a2 :: a3 :: a4 :: a5 :: a6 :: Sl.val d :: ρ) Q = Q d (a0 :: a1 :: a2 :: a3 :: a4 :: a5 :: a6 :: Sl.val d :: ρ) := rfl
theorem ev_o7 : uVar 7 (a0 :: a1 :: a2 :: a3 :: a4 :: a5 :: a6 :: Sl.own l :: ρ) Q = Q (.lst l) (a0 :: a1 :: a2 :: a3 :: a4 :: a5 :: a6 :: Sl.own l :: ρ) := rfl
theorem ev_p7 : uPer 7 (a0 :: a1 :: a2 :: a3 :: a4 :: a5 :: a6 :: Sl.val d :: ρ) Q = Q d (a0 :: a1 :: a2 :: a3 :: a4 :: a5 :: a6 :: Sl.val d :: ρ) := rfl
theorem ev_q7 : uPer 7 (a0 :: a1 :: a2 :: a3 :: a4 :: a5 :: a6 :: Sl.own l :: ρ) Q = Q (.lst l) (a0 :: a1 :: a2 :: a3 :: a4 :: a5 :: a6 :: Sl.val (.lst l) :: ρ) := rfl
theorem ev_v8 : uVar 8 (a0 :: a1 :: a2 :: a3 :: a4 :: a5 :: a6 :: a7 :: Sl.val d :: ρ) Q = Q d (a0 :: a1 :: a2 :: a3 :: a4 :: a5 :: a6 :: a7 :: Sl.val d :: ρ) := rfl
theorem ev_o8 : uVar 8 (a0 :: a1 :: a2 :: a3 :: a4 :: a5 :: a6 :: a7 :: Sl.own l :: ρ) Q = Q (.lst l) (a0 :: a1 :: a2 :: a3 :: a4 :: a5 :: a6 :: a7 :: Sl.own l :: ρ) := rfl
theorem ev_p8 : uPer 8 (a0 :: a1 :: a2 :: a3 :: a4 :: a5 :: a6 :: a7 :: Sl.val d :: ρ) Q = Q d (a0 :: a1 :: a2 :: a3 :: a4 :: a5 :: a6 :: a7 :: Sl.val d :: ρ) := rfl
theorem ev_q8 : uPer 8 (a0 :: a1 :: a2 :: a3 :: a4 :: a5 :: a6 :: a7 :: Sl.own l :: ρ) Q = Q (.lst l) (a0 :: a1 :: a2 :: a3 :: a4 :: a5 :: a6 :: a7 :: Sl.val (.lst l) :: ρ) := rfl
theorem ev_v9 : uVar 9 (a0 :: a1 :: a2 :: a3 :: a4 :: a5 :: a6 :: a7 :: a8 :: Sl.val d :: ρ) Q = Q d (a0 :: a1 :: a2 :: a3 :: a4 :: a5 :: a6 :: a7 :: a8 :: Sl.val d :: ρ) := rfl
theorem ev_o9 : uVar 9 (a0 :: a1 :: a2 :: a3 :: a4 :: a5 :: a6 :: a7 :: a8 :: Sl.own l :: ρ) Q = Q (.lst l) (a0 :: a1 :: a2 :: a3 :: a4 :: a5 :: a6 :: a7 :: a8 :: Sl.own l :: ρ) := rfl
theorem ev_p9 : uPer 9 (a0 :: a1 :: a2 :: a3 :: a4 :: a5 :: a6 :: a7 :: a8 :: Sl.val d :: ρ) Q = Q d (a0 :: a1 :: a2 :: a3 :: a4 :: a5 :: a6 :: a7 :: a8 :: Sl.val d :: ρ) := rfl
theorem ev_q9 : uPer 9 (a0 :: a1 :: a2 :: a3 :: a4 :: a5 :: a6 :: a7 :: a8 :: Sl.own l :: ρ) Q = Q (.lst l) (a0 :: a1 :: a2 :: a3 :: a4 :: a5 :: a6 :: a7 :: a8 :: Sl.val (.lst l) :: ρ) := rfl
theorem ev_v10 : uVar 10 (a0 :: a1 :: a2 :: a3 :: a4 :: a5 :: a6 :: a7 :: a8 :: a9 :: Sl.val d :: ρ) Q = Q d (a0 :: a1 :: a2 :: a3 :: a4 :: a5 :: a6 :: a7 :: a8 :: a9 :: Sl.val d :: ρ) := rfl
theorem ev_o10 : uVar 10 (a0 :: a1 :: a2 :: a3 :: a4 :: a5 :: a6 :: a7 :: a8 :: a9 :: Sl.own l :: ρ) Q = Q (.lst l) (a0 :: a1 :: a2 :: a3 :: a4 :: a5 :: a6 :: a7 :: a8 :: a9 :: Sl.own l :: ρ) := rfl
theorem ev_p10 : uPer 10 (a0 :: a1 :: a2 :: a3 :: a4 :: a5 :: a6 :: a7 :: a8 :: a9 :: Sl.val d :: ρ) Q = Q d (a0 :: a1 :: a2 :: a3 :: a4 :: a5 :: a6 :: a7 :: a8 :: a9 :: Sl.val d :: ρ) := rfl
theorem ev_q10 : uPer 10 (a0 :: a1 :: a2 :: a3 :: a4 :: a5 :: a6 :: a7 :: a8 :: a9 :: Sl.own l :: ρ) Q = Q (.lst l) (a0 :: a1 :: a2 :: a3 :: a4 :: a5 :: a6 :: a7 :: a8 :: a9 :: Sl.val (.lst l) :: ρ) := rfl
theorem ev_v11 : uVar 11 (a0 :: a1 :: a2 :: a3 :: a4 :: a5 :: a6 :: a7 :: a8 :: a9 :: a10 :: Sl.val d :: ρ) Q = Q d (a0 :: a1 :: a2 :: a3 :: a4 :: a5 :: a6 :: a7 :: a8 :: a9 :: a10 :: Sl.val d :: ρ) := rfl
theorem ev_o11 : uVar 11 (a0 :: a1 :: a2 :: a3 :: a4 :: a5 :: a6 :: a7 :: a8 :: a9 :: a10 :: Sl.own l :: ρ) Q = Q (.lst l) (a0 :: a1 :: a2 :: a3 :: a4 :: a5 :: a6 :: a7 :: a8 :: a9 :: a10 :: Sl.own l :: ρ) := rfl
theorem ev_p11 : uPer 11 (a0 :: a1 :: a2 :: a3 :: a4 :: a5 :: a6 :: a7 :: a8 :: a9 :: a10 :: Sl.val d :: ρ) Q = Q d (a0 :: a1 :: a2 :: a3 :: a4 :: a5 :: a6 :: a7 :: a8 :: a9 :: a10 :: Sl.val d :: ρ) := rfl
theorem ev_q11 : uPer 11 (a0 :: a1 :: a2 :: a3 :: a4 :: a5 :: a6 :: a7 :: a8 :: a9 :: a10 :: Sl.own l :: ρ) Q = Q (.lst l) (a0 :: a1 :: a2 :: a3 :: a4 :: a5 :: a6 :: a7 :: a8 :: a9 :: a10 :: Sl.val (.lst l) :: ρ) := rfl
theorem ev_v12 : uVar 12 (a0 :: a1 :: a2 :: a3 :: a4 :: a5 :: a6 :: a7 :: a8 :: a9 :: a10 :: a11 :: Sl.val d :: ρ) Q = Q d (a0 :: a1 :: a2 :: a3 :: a4 :: a5 :: a6 :: a7 :: a8 :: a9 :: a10 :: a11 :: Sl.val d :: ρ) := rfl
theorem ev_o12 : uVar 12 (a0 :: a1 :: a2 :: a3 :: a4 :: a5 :: a6 :: a7 :: a8 :: a9 :: a10 :: a11 :: Sl.own l :: ρ) Q = Q (.lst l) (a0 :: a1 :: a2 :: a3 :: a4 :: a5 :: a6 :: a7 :: a8 :: a9 :: a10 :: a11 :: Sl.own l :: ρ) := rfl
theorem ev_p12 : uPer 12 (a0 :: a1 :: a2 :: a3 :: a4 :: a5 :: a6 :: a7 :: a8 :: a9 :: a10 :: a11 :: Sl.val d :: ρ) Q = Q d (a0 :: a1 :: a2 :: a3 :: a4 :: a5 :: a6 :: a7 :: a8 :: a9 :: a10 :: a11 :: Sl.val d :: ρ) := rfl
theorem ev_q12 : uPer 12 (a0 :: a1 :: a2 :: a3 :: a4 :: a5 :: a6 :: a7 :: a8 :: a9 :: a10 :: a11 :: Sl.own l :: ρ) Q = Q (.lst l) (a0 :: a1 :: a2 :: a3 :: a4 :: a5 :: a6 :: a7 :: a8 :: a9 :: a10 :: a11 :: Sl.val (.lst l) :: ρ) := rfl
theorem ev_v13 : uVar 13 (a0 :: a1 :: a2 :: a3 :: a4 :: a5 :: a6 :: a7 :: a8 :: a9 :: a10 :: a11 :: a12 :: Sl.val d :: ρ) Q = Q d (a0 :: a1 :: a2 :: a3 :: a4 :: a5 :: a6 :: a7 :: a8 :: a9 :: a10 :: a11 :: a12 :: Sl.val d :: ρ) := rfl
theorem ev_o13 : uVar 13 (a0 :: a1 :: a2 :: a3 :: a4 :: a5 :: a6 :: a7 :: a8 :: a9 :: a10 :: a11 :: a12 :: Sl.own l :: ρ) Q = Q (.lst l) (a0 :: a1 :: a2 :: a3 :: a4 :: a5 :: a6 :: a7 :: a8 :: a9 :: a10 :: a11 :: a12 :: Sl.own l :: ρ) := rfl
theorem ev_p13 : uPer 13 (a0 :: a1 :: a2 :: a3 :: a4 :: a5 :: a6 :: a7 :: a8 :: a9 :: a10 :: a11 :: a12 :: Sl.val d :: ρ) Q = Q d (a0 :: a1 :: a2 :: a3 :: a4 :: a5 :: a6 :: a7 :: a8 :: a9 :: a10 :: a11 :: a12 :: Sl.val d :: ρ) := rfl
theorem ev_q13 : uPer 13 (a0 :: a1 :: a2 :: a3 :: a4 :: a5 :: a6 :: a7 :: a8 :: a9 :: a10 :: a11 :: a12 :: Sl.own l :: ρ) Q = Q (.lst l) (a0 :: a1 :: a2 :: a3 :: a4 :: a5 :: a6 :: a7 :: a8 :: a9 :: a10 :: a11 :: a12 :: Sl.val (.lst l) :: ρ) := rfl
theorem ev_v14 : uVar 14 (a0 :: a1 :: a2 :: a3 :: a4 :: a5 :: a6 :: a7 :: a8 :: a9 :: a10 :: a11 :: a12 :: a13 :: Sl.val d :: ρ) Q = Q d (a0 :: a1 :: a2 :: a3 :: a4 :: a5 :: a6 :: a7 :: a8 :: a9 :: a10 :: a11 :: a12 :: a13 :: Sl.val d :: ρ) := rfl
theorem ev_o14 : uVar 14 (a0 :: a1 :: a2 :: a3 :: a4 :: a5 :: a6 :: a7 :: a8 :: a9 :: a10 :: a11 :: a12 :: a13 :: Sl.own l :: ρ) Q = Q (.lst l) (a0 :: a1 :: a2 :: a3 :: a4 :: a5 :: a6 :: a7 :: a8 :: a9 :: a10 :: a11 :: a12 :: a13 :: Sl.own l :: ρ) := rfl
theorem ev_p14 : uPer 14 (a0 :: a1 :: a2 :: a3 :: a4 :: a5 :: a6 :: a7 :: a8 :: a9 :: a10 :: a11 :: a12 :: a13 :: Sl.val d :: ρ) Q = Q d (a0 :: a1 :: a2 :: a3 :: a4 :: a5 :: a6 :: a7 :: a8 :: a9 :: a10 :: a11 :: a12 :: a13 :: Sl.val d :: ρ) := rfl
theorem ev_q14 : uPer 14 (a0 :: a1 :: a2 :: a3 :: a4 :: a5 :: a6 :: a7 :: a8 :: a9 :: a10 :: a11 :: a12 :: a13 :: Sl.own l :: ρ) Q = Q (.lst l) (a0 :: a1 :: a2 :: a3 :: a4 :: a5 :: a6 :: a7 :: a8 :: a9 :: a10 :: a11 :: a12 :: a13 :: Sl.val (.lst l) :: ρ) := rfl
theorem ev_v15 : uVar 15 (a0 :: a1 :: a2 :: a3 :: a4 :: a5 :: a6 :: a7 :: a8 :: a9 :: a10 :: a11 :: a12 :: a13 :: a14 :: Sl.val d :: ρ) Q = Q d (a0 :: a1 :: a2 :: a3 :: a4 :: a5 :: a6 :: a7 :: a8 :: a9 :: a10 :: a11 :: a12 :: a13 :: a14 :: Sl.val d :: ρ) := rfl
theorem ev_o15 : uVar 15 (a0 :: a1 :: a2 :: a3 :: a4 :: a5 :: a6 :: a7 :: a8 :: a9 :: a10 :: a11 :: a12 :: a13 :: a14 :: Sl.own l :: ρ) Q = Q (.lst l) (a0 :: a1 :: a2 :: a3 :: a4 :: a5 :: a6 :: a7 :: a8 :: a9 :: a10 :: a11 :: a12 :: a13 :: a14 :: Sl.own l :: ρ) := rfl
theorem ev_p15 : uPer 15 (a0 :: a1 :: a2 :: a3 :: a4 :: a5 :: a6 :: a7 :: a8 :: a9 :: a10 :: a11 :: a12 :: a13 :: a14 :: Sl.val d :: ρ) Q = Q d (a0 :: a1 :: a2 :: a3 :: a4 :: a5 :: a6 :: a7 :: a8 :: a9 :: a10 :: a11 :: a12 :: a13 :: a14 :: Sl.val d :: ρ) := rfl
theorem ev_q15 : uPer 15 (a0 :: a1 :: a2 :: a3 :: a4 :: a5 :: a6 :: a7 :: a8 :: a9 :: a10 :: a11 :: a12 :: a13 :: a14 :: Sl.own l :: ρ) Q = Q (.lst l) (a0 :: a1 :: a2 :: a3 :: a4 :: a5 :: a6 :: a7 :: a8 :: a9 :: a10 :: a11 :: a12 :: a13 :: a14 :: Sl.val (.lst l) :: ρ) := rfl
theorem ev_v16 : uVar 16 (a0 :: a1 :: a2 :: a3 :: a4 :: a5 :: a6 :: a7 :: a8 :: a9 :: a10 :: a11 :: a12 :: a13 :: a14 :: a15 :: Sl.val d :: ρ) Q = Q d (a0 :: a1 :: a2 :: a3 :: a4 :: a5 :: a6 :: a7 :: a8 :: a9 :: a10 :: a11 :: a12 :: a13 :: a14 :: a15 :: Sl.val d :: ρ) := rfl
theorem ev_o16 : uVar 16 (a0 :: a1 :: a2 :: a3 :: a4 :: a5 :: a6 :: a7 :: a8 :: a9 :: a10 :: a11 :: a12 :: a13 :: a14 :: a15 :: Sl.own l :: ρ) Q = Q (.lst l) (a0 :: a1 :: a2 :: a3 :: a4 :: a5 :: a6 :: a7 :: a8 :: a9 :: a10 :: a11 :: a12 :: a13 :: a14 :: a15 :: Sl.own l :: ρ) := rfl
theorem ev_p16 : uPer 16 (a0 :: a1 :: a2 :: a3 :: a4 :: a5 :: a6 :: a7 :: a8 :: a9 :: a10 :: a11 :: a12 :: a13 :: a14 :: a15 :: Sl.val d :: ρ) Q = Q d (a0 :: a1 :: a2 :: a3 :: a4 :: a5 :: a6 :: a7 :: a8 :: a9 :: a10 :: a11 :: a12 :: a13 :: a14 :: a15 :: Sl.val d :: ρ) := rfl
theorem ev_q16 : uPer 16 (a0 :: a1 :: a2 :: a3 :: a4 :: a5 :: a6 :: a7 :: a8 :: a9 :: a10 :: a11 :: a12 :: a13 :: a14 :: a15 :: Sl.own l :: ρ) Q = Q (.lst l) (a0 :: a1 :: a2 :: a3 :: a4 :: a5 :: a6 :: a7 :: a8 :: a9 :: a10 :: a11 :: a12 :: a13 :: a14 :: a15 :: Sl.val (.lst l) :: ρ) := rfl
theorem ev_v17 : uVar 17 (a0 :: a1 :: a2 :: a3 :: a4 :: a5 :: a6 :: a7 :: a8 :: a9 :: a10 :: a11 :: a12 :: a13 :: a14 :: a15 :: a16 :: Sl.val d :: ρ) Q = Q d (a0 :: a1 :: a2 :: a3 :: a4 :: a5 :: a6 :: a7 :: a8 :: a9 :: a10 :: a11 :: a12 :: a13 :: a14 :: a15 :: a16 :: Sl.val d :: ρ) := rfl
theorem ev_o17 : uVar 17 (a0 :: a1 :: a2 :: a3 :: a4 :: a5 :: a6 :: a7 :: a8 :: a9 :: a10 :: a11 :: a12 :: a13 :: a14 :: a15 :: a16 :: Sl.own l :: ρ) Q = Q (.lst l) (a0 :: a1 :: a2 :: a3 :: a4 :: a5 :: a6 :: a7 :: a8 :: a9 :: a10 :: a11 :: a12 :: a13 :: a14 :: a15 :: a16 :: Sl.own l :: ρ) := rfl
theorem ev_p17 : uPer 17 (a0 :: a1 :: a2 :: a3 :: a4 :: a5 :: a6 :: a7 :: a8 :: a9 :: a10 :: a11 :: a12 :: a13 :: a14 :: a15 :: a16 :: Sl.val d :: ρ) Q = Q d (a0 :: a1 :: a2 :: a3 :: a4 :: a5 :: a6 :: a7 :: a8 :: a9 :: a10 :: a11 :: a12 :: a13 :: a14 :: a15 :: a16 :: Sl.val d :: ρ) := rfl
theorem ev_q17 : uPer 17 (a0 :: a1 :: a2 :: a3 :: a4 :: a5 :: a6 :: a7 :: a8 :: a9 :: a10 :: a11 :: a12 :: a13 :: a14 :: a15 :: a16 :: Sl.own l :: ρ) Q = Q (.lst l) (a0 :: a1 :: a2 :: a3 :: a4 :: a5 :: a6 :: a7 :: a8 :: a9 :: a10 :: a11 :: a12 :: a13 :: a14 :: a15 :: a16 :: Sl.val (.lst l) :: ρ) := rfl
theorem ev_v18 : uVar 18 (a0 :: a1 :: a2 :: a3 :: a4 :: a5 :: a6 :: a7 :: a8 :: a9 :: a10 :: a11 :: a12 :: a13 :: a14 :: a15 :: a16 :: a17 :: Sl.val d :: ρ) Q = Q d (a0 :: a1 :: a2 :: a3 :: a4 :: a5 :: a6 :: a7 :: a8 :: a9 :: a10 :: a11 :: a12 :: a13 :: a14 :: a15 :: a16 :: a17 :: Sl.val d :: ρ) := rfl
theorem ev_o18 : uVar 18 (a0 :: a1 :: a2 :: a3 :: a4 :: a5 :: a6 :: a7 :: a8 :: a9 :: a10 :: a11 :: a12 :: a13 :: a14 :: a15 :: a16 :: a17 :: Sl.own l :: ρ) Q = Q (.lst l) (a0 :: a1 :: a2 :: a3 :: a4 :: a5 :: a6 :: a7 :: a8 :: a9 :: a10 :: a11 :: a12 :: a13 :: a14 :: a15 :: a16 :: a17 :: Sl.own l :: ρ) := rfl
theorem ev_p18 : uPer 18 (a0 :: a1 :: a2 :: a3 :: a4 :: a5 :: a6 :: a7 :: a8 :: a9 :: a10 :: a11 :: a12 :: a13 :: a14 :: a15 :: a16 :: a17 :: Sl.val d :: ρ) Q = Q d (a0 :: a1 :: a2 :: a3 :: a4 :: a5 :: a6 :: a7 :: a8 :: a9 :: a10 :: a11 :: a12 :: a13 :: a14 :: a15 :: a16 :: a17 :: Sl.val d :: ρ) := rfl
theorem ev_q18 : uPer 18 (a0 :: a1 :: a2 :: a3 :: a4 :: a5 :: a6 :: a7 :: a8 :: a9 :: a10 :: a11 :: a12 :: a13 :: a14 :: a15 :: a16 :: a17 :: Sl.own l :: ρ) Q = Q (.lst l) (a0 :: a1 :: a2 :: a3 :: a4 :: a5 :: a6 :: a7 :: a8 :: a9 :: a10 :: a11 :: a12 :: a13 :: a14 :: a15 :: a16 :: a17 :: Sl.val (.lst l) :: ρ) := rfl
theorem ev_v19 : uVar 19 (a0 :: a1 :: a2 :: a3 :: a4 :: a5 :: a6 :: a7 :: a8 :: a9 :: a10 :: a11 :: a12 :: a13 :: a14 :: a15 :: a16 :: a17 :: a18 :: Sl.val d :: ρ) Q = Q d (a0 :: a1 :: a2 :: a3 :: a4 :: a5 :: a6 :: a7 :: a8 :: a9 :: a10 :: a11 :: a12 :: a13 :: a14 :: a15 :: a16 :: a17 :: a18 :: Sl.val d :: ρ) := rfl
theorem ev_o19 : uVar 19 (a0 :: a1 :: a2 :: a3 :: a4 :: a5 :: a6 :: a7 :: a8 :: a9 :: a10 :: a11 :: a12 :: a13 :: a14 :: a15 :: a16 :: a17 :: a18 :: Sl.own l :: ρ) Q = Q (.lst l) (a0 :: a1 :: a2 :: a3 :: a4 :: a5 :: a6 :: a7 :: a8 :: a9 :: a10 :: a11 :: a12 :: a13 :: a14 :: a15 :: a16 :: a17 :: a18 :: Sl.own l :: ρ) := rfl
theorem ev_p19 : uPer 19 (a0 :: a1 :: a2 :: a3 :: a4 :: a5 :: a6 :: a7 :: a8 :: a9 :: a10 :: a11 :: a12 :: a13 :: a14 :: a15 :: a16 :: a17 :: a18 :: Sl.val d :: ρ) Q = Q d (a0 :: a1 :: a2 :: a3 :: a4 :: a5 :: a6 :: a7 :: a8 :: a9 :: a10 :: a11 :: a12 :: a13 :: a14 :: a15 :: a16 :: a17 :: a18 :: Sl.val d :: ρ) := rfl
theorem ev_q19 : uPer 19 (a0 :: a1 :: a2 :: a3 :: a4 :: a5 :: a6 :: a7 :: a8 :: a9 :: a10 :: a11 :: a12 :: a13 :: a14 :: a15 :: a16 :: a17 :: a18 :: Sl.own l :: ρ) Q = Q (.lst l) (a0 :: a1 :: a2 :: a3 :: a4 :: a5 :: a6 :: a7 :: a8 :: a9 :: a10 :: a11 :: a12 :: a13 :: a14 :: a15 :: a16 :: a17 :: a18 :: Sl.val (.lst l) :: ρ) := rfl
theorem ev_v20 : uVar 20 (a0 :: a1 :: a2 :: a3 :: a4 :: a5 :: a6 :: a7 :: a8 :: a9 :: a10 :: a11 :: a12 :: a13 :: a14 :: a15 :: a16 :: a17 :: a18 :: a19 :: Sl.val d :: ρ) Q = Q d (a0 :: a1 :: a2 :: a3 :: a4 :: a5 :: a6 :: a7 :: a8 :: a9 :: a10 :: a11 :: a12 :: a13 :: a14 :: a15 :: a16 :: a17 :: a18 :: a19 :: Sl.val d :: ρ) := rfl
theorem ev_o20 : uVar 20 (a0 :: a1 :: a2 :: a3 :: a4 :: a5 :: a6 :: a7 :: a8 :: a9 :: a10 :: a11 :: a12 :: a13 :: a14 :: a15 :: a16 :: a17 :: a18 :: a19 :: Sl.own l :: ρ) Q = Q (.lst l) (a0 :: a1 :: a2 :: a3 :: a4 :: a5 :: a6 :: a7 :: a8 :: a9 :: a10 :: a11 :: a12 :: a13 :: a14 :: a15 :: a16 :: a17 :: a18 :: a19 :: Sl.own l :: ρ) := rfl
theorem ev_p20 : uPer 20 (a0 :: a1 :: a2 :: a3 :: a4 :: a5 :: a6 :: a7 :: a8 :: a9 :: a10 :: a11 :: a12 :: a13 :: a14 :: a15 :: a16 :: a17 :: a18 :: a19 :: Sl.val d :: ρ) Q = Q d (a0 :: a1 :: a2 :: a3 :: a4 :: a5 :: a6 :: a7 :: a8 :: a9 :: a10 :: a11 :: a12 :: a13 :: a14 :: a15 :: a16 :: a17 :: a18 :: a19 :: Sl.val d :: ρ) := rfl
theorem ev_q20 : uPer 20 (a0 :: a1 :: a2 :: a3 :: a4 :: a5 :: a6 :: a7 :: a8 :: a9 :: a10 :: a11 :: a12 :: a13 :: a14 :: a15 :: a16 :: a17 :: a18 :: a19 :: Sl.own l :: ρ) Q = Q (.lst l) (a0 :: a1 :: a2 :: a3 :: a4 :: a5 :: a6 :: a7 :: a8 :: a9 :: a10 :: a11 :: a12 :: a13 :: a14 :: a15 :: a16 :: a17 :: a18 :: a19 :: Sl.val (.lst l) :: ρ) := rfl
theorem ev_v21 : uVar 21 (a0 :: a1 :: a2 :: a3 :: a4 :: a5 :: a6 :: a7 :: a8 :: a9 :: a10 :: a11 :: a12 :: a13 :: a14 :: a15 :: a16 :: a17 :: a18 :: a19 :: a20 :: Sl.val d :: ρ) Q = Q d (a0 :: a1 :: a2 :: a3 :: a4 :: a5 :: a6 :: a7 :: a8 :: a9 :: a10 :: a11 :: a12 :: a13 :: a14 :: a15 :: a16 :: a17 :: a18 :: a19 :: a20 :: Sl.val d :: ρ) := rfl
theorem ev_o21 : uVar 21 (a0 :: a1 :: a2 :: a3 :: a4 :: a5 :: a6 :: a7 :: a8 :: a9 :: a10 :: a11 :: a12 :: a13 :: a14 :: a15 :: a16 :: a17 :: a18 :: a19 :: a20 :: Sl.own l :: ρ) Q = Q (.lst l) (a0 :: a1 :: a2 :: a3 :: a4 :: a5 :: a6 :: a7 :: a8 :: a9 :: a10 :: a11 :: a12 :: a13 :: a14 :: a15 :: a16 :: a17 :: a18 :: a19 :: a20 :: Sl.own l :: ρ) := rfl
theorem ev_p21 : uPer 21 (a0 :: a1 :: a2 :: a3 :: a4 :: a5 :: a6 :: a7 :: a8 :: a9 :: a10 :: a11 :: a12 :: a13 :: a14 :: a15 :: a16 :: a17 :: a18 :: a19 :: a20 :: Sl.val d :: ρ) Q = Q d (a0 :: a1 :: a2 :: a3 :: a4 :: a5 :: a6 :: a7 :: a8 :: a9 :: a10 :: a11 :: a12 :: a13 :: a14 :: a15 :: a16 :: a17 :: a18 :: a19 :: a20 :: Sl.val d :: ρ) := rfl
theorem ev_q21 : uPer 21 (a0 :: a1 :: a2 :: a3 :: a4 :: a5 :: a6 :: a7 :: a8 :: a9 :: a10 :: a11 :: a12 :: a13 :: a14 :: a15 :: a16 :: a17 :: a18 :: a19 :: a20 :: Sl.own l :: ρ) Q = Q (.lst l) (a0 :: a1 :: a2 :: a3 :: a4 :: a5 :: a6 :: a7 :: a8 :: a9 :: a10 :: a11 :: a12 :: a13 :: a14 :: a15 :: a16 :: a17 :: a18 :: a19 :: a20 :: Sl.val (.lst l) :: ρ) := rfl
theorem ev_v22 : uVar 22 (a0 :: a1 :: a2 :: a3 :: a4 :: a5 :: a6 :: a7 :: a8 :: a9 :: a10 :: a11 :: a12 :: a13 :: a14 :: a15 :: a16 :: a17 :: a18 :: a19 :: a20 :: a21 :: Sl.val d :: ρ) Q = Q d (a0 :: a1 :: a2 :: a3 :: a4 :: a5 :: a6 :: a7 :: a8 :: a9 :: a10 :: a11 :: a12 :: a13 :: a14 :: a15 :: a16 :: a17 :: a18 :: a19 :: a20 :: a21 :: Sl.val d :: ρ) := rfl
theorem ev_o22 : uVar 22 (a0 :: a1 :: a2 :: a3 :: a4 :: a5 :: a6 :: a7 :: a8 :: a9 :: a10 :: a11 :: a12 :: a13 :: a14 :: a15 :: a16 :: a17 :: a18 :: a19 :: a20 :: a21 :: Sl.own l :: ρ) Q = Q (.lst l) (a0 :: a1 :: a2 :: a3 :: a4 :: a5 :: a6 :: a7 :: a8 :: a9 :: a10 :: a11 :: a12 :: a13 :: a14 :: a15 :: a16 :: a17 :: a18 :: a19 :: a20 :: a21 :: Sl.own l :: ρ) := rfl
theorem ev_p22 : uPer 22 (a0 :: a1 :: a2 :: a3 :: a4 :: a5 :: a6 :: a7 :: a8 :: a9 :: a10 :: a11 :: a12 :: a13 :: a14 :: a15 :: a16 :: a17 :: a18 :: a19 :: a20 :: a21 :: Sl.val d :: ρ) Q = Q d (a0 :: a1 :: a2 :: a3 :: a4 :: a5 :: a6 :: a7 :: a8 :: a9 :: a10 :: a11 :: a12 :: a13 :: a14 :: a15 :: a16 :: a17 :: a18 :: a19 :: a20 :: a21 :: Sl.val d :: ρ) := rfl
theorem ev_q22 : uPer 22 (a0 :: a1 :: a2 :: a3 :: a4 :: a5 :: a6 :: a7 :: a8 :: a9 :: a10 :: a11 :: a12 :: a13 :: a14 :: a15 :: a16 :: a17 :: a18 :: a19 :: a20 :: a21 :: Sl.own l :: ρ) Q = Q (.lst l) (a0 :: a1 :: a2 :: a3 :: a4 :: a5 :: a6 :: a7 :: a8 :: a9 :: a10 :: a11 :: a12 :: a13 :: a14 :: a15 :: a16 :: a17 :: a18 :: a19 :: a20 :: a21 :: Sl.val (.lst l) :: ρ) := rfl
theorem ev_v23 : uVar 23 (a0 :: a1 :: a2 :: a3 :: a4 :: a5 :: a6 :: a7 :: a8 :: a9 :: a10 :: a11 :: a12 :: a13 :: a14 :: a15 :: a16 :: a17 :: a18 :: a19 :: a20 :: a21 :: a22 :: Sl.val d :: ρ) Q = Q d (a0 :: a1 :: a2 :: a3 :: a4 :: a5 :: a6 :: a7 :: a8 :: a9 :: a10 :: a11 :: a12 :: a13 :: a14 :: a15 :: a16 :: a17 :: a18 :: a19 :: a20 :: a21 :: a22 :: Sl.val d :: ρ) := rfl
theorem ev_o23 : uVar 23 (a0 :: a1 :: a2 :: a3 :: a4 :: a5 :: a6 :: a7 :: a8 :: a9 :: a10 :: a11 :: a12 :: a13 :: a14 :: a15 :: a16 :: a17 :: a18 :: a19 :: a20 :: a21 :: a22 :: Sl.own l :: ρ) Q = Q (.lst l) (a0 :: a1 :: a2 :: a3 :: a4 :: a5 :: a6 :: a7 :: a8 :: a9 :: a10 :: a11 :: a12 :: a13 :: a14 :: a15 :: a16 :: a17 :: a18 :: a19 :: a20 :: a21 :: a22 :: Sl.own l :: ρ) := rfl
theorem ev_p23 : uPer 23 (a0 :: a1 :: a2 :: a3 :: a4 :: a5 :: a6 :: a7 :: a8 :: a9 :: a10 :: a11 :: a12 :: a13 :: a14 :: a15 :: a16 :: a17 :: a18 :: a19 :: a20 :: a21 :: a22 :: Sl.val d :: ρ) Q = Q d (a0 :: a1 :: a2 :: a3 :: a4 :: a5 :: a6 :: a7 :: a8 :: a9 :: a10 :: a11 :: a12 :: a13 :: a14 :: a15 :: a16 :: a17 :: a18 :: a19 :: a20 :: a21 :: a22 :: Sl.val d :: ρ) := rfl
theorem ev_q23 : uPer 23 (a0 :: a1 :: a2 :: a3 :: a4 :: a5 :: a6 :: a7 :: a8 :: a9 :: a10 :: a11 :: a12 :: a13 :: a14 :: a15 :: a16 :: a17 :: a18 :: a19 :: a20 :: a21 :: a22 :: Sl.own l :: ρ) Q = Q (.lst l) (a0 :: a1 :: a2 :: a3 :: a4 :: a5 :: a6 :: a7 :: a8 :: a9 :: a10 :: a11 :: a12 :: a13 :: a14 :: a15 :: a16 :: a17 :: a18 :: a19 :: a20 :: a21 :: a22 :: Sl.val (.lst l) :: ρ) := rfl
theorem ev_v24 : uVar 24 (a0 :: a1 :: a2 :: a3 :: a4 :: a5 :: a6 :: a7 :: a8 :: a9 :: a10 :: a11 :: a12 :: a13 :: a14 :: a15 :: a16 :: a17 :: a18 :: a19 :: a20 :: a21 :: a22 :: a23 :: Sl.val d :: ρ) Q = Q d (a0 :: a1 :: a2 :: a3 :: a4 :: a5 :: a6 :: a7 :: a8 :: a9 :: a10 :: a11 :: a12 :: a13 :: a14 :: a15 :: a16 :: a17 :: a18 :: a19 :: a20 :: a21 :: a22 :: a23 :: Sl.val d :: ρ) := rfl
theorem ev_o24 : uVar 24 (a0 :: a1 :: a2 :: a3 :: a4 :: a5 :: a6 :: a7 :: a8 :: a9 :: a10 :: a11 :: a12 :: a13 :: a14 :: a15 :: a16 :: a17 :: a18 :: a19 :: a20 :: a21 :: a22 :: a23 :: Sl.own l :: ρ) Q = Q (.lst l) (a0 :: a1 :: a2 :: a3 :: a4 :: a5 :: a6 :: a7 :: a8 :: a9 :: a10 :: a11 :: a12 :: a13 :: a14 :: a15 :: a16 :: a17 :: a18 :: a19 :: a20 :: a21 :: a22 :: a23 :: Sl.own l :: ρ) := rfl
theorem ev_p24 : uPer 24 (a0 :: a1 :: a2 :: a3 :: a4 :: a5 :: a6 :: a7 :: a8 :: a9 :: a10 :: a11 :: a12 :: a13 :: a14 :: a15 :: a16 :: a17 :: a18 :: a19 :: a20 :: a21 :: a22 :: a23 :: Sl.val d :: ρ) Q = Q d (a0 :: a1 :: a2 :: a3 :: a4 :: a5 :: a6 :: a7 :: a8 :: a9 :: a10 :: a11 :: a12 :: a13 :: a14 :: a15 :: a16 :: a17 :: a18 :: a19 :: a20 :: a21 :: a22 :: a23 :: Sl.val d :: ρ) := rfl
theorem ev_q24 : uPer 24 (a0 :: a1 :: a2 :: a3 :: a4 :: a5 :: a6 :: a7 :: a8 :: a9 :: a10 :: a11 :: a12 :: a13 :: a14 :: a15 :: a16 :: a17 :: a18 :: a19 :: a20 :: a21 :: a22 :: a23 :: Sl.own l :: ρ) Q = Q (.lst l) (a0 :: a1 :: a2 :: a3 :: a4 :: a5 :: a6 :: a7 :: a8 :: a9 :: a10 :: a11 :: a12 :: a13 :: a14 :: a15 :: a16 :: a17 :: a18 :: a19 :: a20 :: a21 :: a22 :: a23 :: Sl.val (.lst l) :: ρ) := rfl
theorem ev_v25 : uVar 25 (a0 :: a1 :: a2 :: a3 :: a4 :: a5 :: a6 :: a7 :: a8 :: a9 :: a10 :: a11 :: a12 :: a13 :: a14 :: a15 :: a16 :: a17 :: a18 :: a19 :: a20 :: a21 :: a22 :: a23 :: a24 :: Sl.val d :: ρ) Q = Q d (a0 :: a1 :: a2 :: a3 :: a4 :: a5 :: a6 :: a7 :: a8 :: a9 :: a10 :: a11 :: a12 :: a13 :: a14 :: a15 :: a16 :: a17 :: a18 :: a19 :: a20 :: a21 :: a22 :: a23 :: a24 :: Sl.val d :: ρ) := rfl
theorem ev_o25 : uVar 25 (a0 :: a1 :: a2 :: a3 :: a4 :: a5 :: a6 :: a7 :: a8 :: a9 :: a10 :: a11 :: a12 :: a13 :: a14 :: a15 :: a16 :: a17 :: a18 :: a19 :: a20 :: a21 :: a22 :: a23 :: a24 :: Sl.own l :: ρ) Q = Q (.lst l) (a0 :: a1 :: a2 :: a3 :: a4 :: a5 :: a6 :: a7 :: a8 :: a9 :: a10 :: a11 :: a12 :: a13 :: a14 :: a15 :: a16 :: a17 :: a18 :: a19 :: a20 :: a21 :: a22 :: a23 :: a24 :: Sl.own l :: ρ) := rfl
theorem ev_p25 : uPer 25 (a0 :: a1 :: a2 :: a3 :: a4 :: a5 :: a6 :: a7 :: a8 :: a9 :: a10 :: a11 :: a12 :: a13 :: a14 :: a15 :: a16 :: a17 :: a18 :: a19 :: a20 :: a21 :: a22 :: a23 :: a24 :: Sl.val d :: ρ) Q = Q d (a0 :: a1 :: a2 :: a3 :: a4 :: a5 :: a6 :: a7 :: a8 :: a9 :: a10 :: a11 :: a12 :: a13 :: a14 :: a15 :: a16 :: a17 :: a18 :: a19 :: a20 :: a21 :: a22 :: a23 :: a24 :: Sl.val d :: ρ) := rfl
theorem ev_q25 : uPer 25 (a0 :: a1 :: a2 :: a3 :: a4 :: a5 :: a6 :: a7 :: a8 :: a9 :: a10 :: a11 :: a12 :: a13 :: a14 :: a15 :: a16 :: a17 :: a18 :: a19 :: a20 :: a21 :: a22 :: a23 :: a24 :: Sl.own l :: ρ) Q = Q (.lst l) (a0 :: a1 :: a2 :: a3 :: a4 :: a5 :: a6 :: a7 :: a8 :: a9 :: a10 :: a11 :: a12 :: a13 :: a14 :: a15 :: a16 :: a17 :: a18 :: a19 :: a20 :: a21 :: a22 :: a23 :: a24 :: Sl.val (.lst l) :: ρ) := rfl
theorem ev_v26 : uVar 26 (a0 :: a1 :: a2 :: a3 :: a4 :: a5 :: a6 :: a7 :: a8 :: a9 :: a10 :: a11 :: a12 :: a13 :: a14 :: a15 :: a16 :: a17 :: a18 :: a19 :: a20 :: a21 :: a22 :: a23 :: a24 :: a25 :: Sl.val d :: ρ) Q = Q d (a0 :: a1 :: a2 :: a3 :: a4 :: a5 :: a6 :: a7 :: a8 :: a9 :: a10 :: a11 :: a12 :: a13 :: a14 :: a15 :: a16 :: a17 :: a18 :: a19 :: a20 :: a21 :: a22 :: a23 :: a24 :: a25 :: Sl.val d :: ρ) := rfl
theorem ev_o26 : uVar 26 (a0 :: a1 :: a2 :: a3 :: a4 :: a5 :: a6 :: a7 :: a8 :: a9 :: a10 :: a11 :: a12 :: a13 :: a14 :: a15 :: a16 :: a17 :: a18 :: a19 :: a20 :: a21 :: a22 :: a23 :: a24 :: a25 :: Sl.own l :: ρ) Q = Q (.lst l) (a0 :: a1 :: a2 :: a3 :: a4 :: a5 :: a6 :: a7 :: a8 :: a9 :: a10 :: a11 :: a12 :: a13 :: a14 :: a15 :: a16 :: a17 :: a18 :: a19 :: a20 :: a21 :: a22 :: a23 :: a24 :: a25 :: Sl.own l :: ρ) := rfl
theorem ev_p26 : uPer 26 (a0 :: a1 :: a2 :: a3 :: a4 :: a5 :: a6 :: a7 :: a8 :: a9 :: a10 :: a11 :: a12 :: a13 :: a14 :: a15 :: a16 :: a17 :: a18 :: a19 :: a20 :: a21 :: a22 :: a23 :: a24 :: a25 :: Sl.val d :: ρ) Q = Q d (a0 :: a1 :: a2 :: a3 :: a4 :: a5 :: a6 :: a7 :: a8 :: a9 :: a10 :: a11 :: a12 :: a13 :: a14 :: a15 :: a16 :: a17 :: a18 :: a19 :: a20 :: a21 :: a22 :: a23 :: a24 :: a25 :: Sl.val d :: ρ) := rfl
theorem ev_q26 : uPer 26 (a0 :: a1 :: a2 :: a3 :: a4 :: a5 :: a6 :: a7 :: a8 :: a9 :: a10 :: a11 :: a12 :: a13 :: a14 :: a15 :: a16 :: a17 :: a18 :: a19 :: a20 :: a21 :: a22 :: a23 :: a24 :: a25 :: Sl.own l :: ρ) Q = Q (.lst l) (a0 :: a1 :: a2 :: a3 :: a4 :: a5 :: a6 :: a7 :: a8 :: a9 :: a10 :: a11 :: a12 :: a13 :: a14 :: a15 :: a16 :: a17 :: a18 :: a19 :: a20 :: a21 :: a22 :: a23 :: a24 :: a25 :: Sl.val (.lst l) :: ρ) := rfl
theorem ev_v27 : uVar 27 (a0 :: a1 :: a2 :: a3 :: a4 :: a5 :: a6 :: a7 :: a8 :: a9 :: a10 :: a11 :: a12 :: a13 :: a14 :: a15 :: a16 :: a17 :: a18 :: a19 :: a20 :: a21 :: a22 :: a23 :: a24 :: a25 :: a26 :: Sl.val d :: ρ) Q = Q d (a0 :: a1 :: a2 :: a3 :: a4 :: a5 :: a6 :: a7 :: a8 :: a9 :: a10 :: a11 :: a12 :: a13 :: a14 :: a15 :: a16 :: a17 :: a18 :: a19 :: a20 :: a21 :: a22 :: a23 :: a24 :: a25 :: a26 :: Sl.val d :: ρ) := rfl
theorem ev_o27 : uVar 27 (a0 :: a1 :: a2 :: a3 :: a4 :: a5 :: a6 :: a7 :: a8 :: a9 :: a10 :: a11 :: a12 :: a13 :: a14 :: a15 :: a16 :: a17 :: a18 :: a19 :: a20 :: a21 :: a22 :: a23 :: a24 :: a25 :: a26 :: Sl.own l :: ρ) Q = Q (.lst l) (a0 :: a1 :: a2 :: a3 :: a4 :: a5 :: a6 :: a7 :: a8 :: a9 :: a10 :: a11 :: a12 :: a13 :: a14 :: a15 :: a16 :: a17 :: a18 :: a19 :: a20 :: a21 :: a22 :: a23 :: a24 :: a25 :: a26 :: Sl.own l :: ρ) := rfl
theorem ev_p27 : uPer 27 (a0 :: a1 :: a2 :: a3 :: a4 :: a5 :: a6 :: a7 :: a8 :: a9 :: a10 :: a11 :: a12 :: a13 :: a14 :: a15 :: a16 :: a17 :: a18 :: a19 :: a20 :: a21 :: a22 :: a23 :: a24 :: a25 :: a26 :: Sl.val d :: ρ) Q = Q d (a0 :: a1 :: a2 :: a3 :: a4 :: a5 :: a6 :: a7 :: a8 :: a9 :: a10 :: a11 :: a12 :: a13 :: a14 :: a15 :: a16 :: a17 :: a18 :: a19 :: a20 :: a21 :: a22 :: a23 :: a24 :: a25 :: a26 :: Sl.val d :: ρ) := rfl
theorem ev_q27 : uPer 27 (a0 :: a1 :: a2 :: a3 :: a4 :: a5 :: a6 :: a7 :: a8 :: a9 :: a10 :: a11 :: a12 :: a13 :: a14 :: a15 :: a16 :: a17 :: a18 :: a19 :: a20 :: a21 :: a22 :: a23 :: a24 :: a25 :: a26 :: Sl.own l :: ρ) Q = Q (.lst l) (a0 :: a1 :: a2 :: a3 :: a4 :: a5 :: a6 :: a7 :: a8 :: a9 :: a10 :: a11 :: a12 :: a13 :: a14 :: a15 :: a16 :: a17 :: a18 :: a19 :: a20 :: a21 :: a22 :: a23 :: a24 :: a25 :: a26 :: Sl.val (.lst l) :: ρ) := rfl
theorem ev_v28 : uVar 28 (a0 :: a1 :: a2 :: a3 :: a4 :: a5 :: a6 :: a7 :: a8 :: a9 :: a10 :: a11 :: a12 :: a13 :: a14 :: a15 :: a16 :: a17 :: a18 :: a19 :: a20 :: a21 :: a22 :: a23 :: a24 :: a25 :: a26 :: a27 :: Sl.val d :: ρ) Q = Q d (a0 :: a1 :: a2 :: a3 :: a4 :: a5 :: a6 :: a7 :: a8 :: a9 :: a10 :: a11 :: a12 :: a13 :: a14 :: a15 :: a16 :: a17 :: a18 :: a19 :: a20 :: a21 :: a22 :: a23 :: a24 :: a25 :: a26 :: a27 :: Sl.val d :: ρ) := rfl
theorem ev_o28 : uVar 28 (a0 :: a1 :: a2 :: a3 :: a4 :: a5 :: a6 :: a7 :: a8 :: a9 :: a10 :: a11 :: a12 :: a13 :: a14 :: a15 :: a16 :: a17 :: a18 :: a19 :: a20 :: a21 :: a22 :: a23 :: a24 :: a25 :: a26 :: a27 :: Sl.own l :: ρ) Q = Q (.lst l) (a0 :: a1 :: a2 :: a3 :: a4 :: a5 :: a6 :: a7 :: a8 :: a9 :: a10 :: a11 :: a12 :: a13 :: a14 :: a15 :: a16 :: a17 :: a18 :: a19 :: a20 :: a21 :: a22 :: a23 :: a24 :: a25 :: a26 :: a27 :: Sl.own l :: ρ) := rfl
theorem ev_p28 : uPer 28 (a0 :: a1 :: a2 :: a3 :: a4 :: a5 :: a6 :: a7 :: a8 :: a9 :: a10 :: a11 :: a12 :: a13 :: a14 :: a15 :: a16 :: a17 :: a18 :: a19 :: a20 :: a21 :: a22 :: a23 :: a24 :: a25 :: a26 :: a27 :: Sl.val d :: ρ) Q = Q d (a0 :: a1 :: a2 :: a3 :: a4 :: a5 :: a6 :: a7 :: a8 :: a9 :: a10 :: a11 :: a12 :: a13 :: a14 :: a15 :: a16 :: a17 :: a18 :: a19 :: a20 :: a21 :: a22 :: a23 :: a24 :: a25 :: a26 :: a27 :: Sl.val d :: ρ) := rfl
theorem ev_q28 : uPer 28 (a0 :: a1 :: a2 :: a3 :: a4 :: a5 :: a6 :: a7 :: a8 :: a9 :: a10 :: a11 :: a12 :: a13 :: a14 :: a15 :: a16 :: a17 :: a18 :: a19 :: a20 :: a21 :: a22 :: a23 :: a24 :: a25 :: a26 :: a27 :: Sl.own l :: ρ) Q = Q (.lst l) (a0 :: a1 :: a2 :: a3 :: a4 :: a5 :: a6 :: a7 :: a8 :: a9 :: a10 :: a11 :: a12 :: a13 :: a14 :: a15 :: a16 :: a17 :: a18 :: a19 :: a20 :: a21 :: a22 :: a23 :: a24 :: a25 :: a26 :: a27 :: Sl.val (.lst l) :: ρ) := rfl
theorem ev_v29 : uVar 29 (a0 :: a1 :: a2 :: a3 :: a4 :: a5 :: a6 :: a7 :: a8 :: a9 :: a10 :: a11 :: a12 :: a13 :: a14 :: a15 :: a16 :: a17 :: a18 :: a19 :: a20 :: a21 :: a22 :: a23 :: a24 :: a25 :: a26 :: a27 :: a28 :: Sl.val d :: ρ) Q = Q d (a0 :: a1 :: a2 :: a3 :: a4 :: a5 :: a6 :: a7 :: a8 :: a9 :: a10 :: a11 :: a12 :: a13 :: a14 :: a15 :: a16 :: a17 :: a18 :: a19 :: a20 :: a21 :: a22 :: a23 :: a24 :: a25 :: a26 :: a27 :: a28 :: Sl.val d :: ρ) := rfl
theorem ev_o29 : uVar 29 (a0 :: a1 :: a2 :: a3 :: a4 :: a5 :: a6 :: a7 :: a8 :: a9 :: a10 :: a11 :: a12 :: a13 :: a14 :: a15 :: a16 :: a17 :: a18 :: a19 :: a20 :: a21 :: a22 :: a23 :: a24 :: a25 :: a26 :: a27 :: a28 :: Sl.own l :: ρ) Q = Q (.lst l) (a0 :: a1 :: a2 :: a3 :: a4 :: a5 :: a6 :: a7 :: a8 :: a9 :: a10 :: a11 :: a12 :: a13 :: a14 :: a15 :: a16 :: a17 :: a18 :: a19 :: a20 :: a21 :: a22 :: a23 :: a24 :: a25 :: a26 :: a27 :: a28 :: Sl.own l :: ρ) := rfl
theorem ev_p29 : uPer 29 (a0 :: a1 :: a2 :: a3 :: a4 :: a5 :: a6 :: a7 :: a8 :: a9 :: a10 :: a11 :: a12 :: a13 :: a14 :: a15 :: a16 :: a17 :: a18 :: a19 :: a20 :: a21 :: a22 :: a23 :: a24 :: a25 :: a26 :: a27 :: a28 :: Sl.val d :: ρ) Q = Q d (a0 :: a1 :: a2 :: a3 :: a4 :: a5 :: a6 :: a7 :: a8 :: a9 :: a10 :: a11 :: a12 :: a13 :: a14 :: a15 :: a16 :: a17 :: a18 :: a19 :: a20 :: a21 :: a22 :: a23 :: a24 :: a25 :: a26 :: a27 :: a28 :: Sl.val d :: ρ) := rfl
theorem ev_q29 : uPer 29 (a0 :: a1 :: a2 :: a3 :: a4 :: a5 :: a6 :: a7 :: a8 :: a9 :: a10 :: a11 :: a12 :: a13 :: a14 :: a15 :: a16 :: a17 :: a18 :: a19 :: a20 :: a21 :: a22 :: a23 :: a24 :: a25 :: a26 :: a27 :: a28 :: Sl.own l :: ρ) Q = Q (.lst l) (a0 :: a1 :: a2 :: a3 :: a4 :: a5 :: a6 :: a7 :: a8 :: a9 :: a10 :: a11 :: a12 :: a13 :: a14 :: a15 :: a16 :: a17 :: a18 :: a19 :: a20 :: a21 :: a22 :: a23 :: a24 :: a25 :: a26 :: a27 :: a28 :: Sl.val (.lst l) :: ρ) := rfl
theorem ev_v30 : uVar 30 (a0 :: a1 :: a2 :: a3 :: a4 :: a5 :: a6 :: a7 :: a8 :: a9 :: a10 :: a11 :: a12 :: a13 :: a14 :: a15 :: a16 :: a17 :: a18 :: a19 :: a20 :: a21 :: a22 :: a23 :: a24 :: a25 :: a26 :: a27 :: a28 :: a29 :: Sl.val d :: ρ) Q = Q d (a0 :: a1 :: a2 :: a3 :: a4 :: a5 :: a6 :: a7 :: a8 :: a9 :: a10 :: a11 :: a12 :: a13 :: a14 :: a15 :: a16 :: a17 :: a18 :: a19 :: a20 :: a21 :: a22 :: a23 :: a24 :: a25 :: a26 :: a27 :: a28 :: a29 :: Sl.val d :: ρ) := rfl
theorem ev_o30 : uVar 30 (a0 :: a1 :: a2 :: a3 :: a4 :: a5 :: a6 :: a7 :: a8 :: a9 :: a10 :: a11 :: a12 :: a13 :: a14 :: a15 :: a16 :: a17 :: a18 :: a19 :: a20 :: a21 :: a22 :: a23 :: a24 :: a25 :: a26 :: a27 :: a28 :: a29 :: Sl.own l :: ρ) Q = Q (.lst l) (a0 :: a1 :: a2 :: a3 :: a4 :: a5 :: a6 :: a7 :: a8 :: a9 :: a10 :: a11 :: a12 :: a13 :: a14 :: a15 :: a16 :: a17 :: a18 :: a19 :: a20 :: a21 :: a22 :: a23 :: a24 :: a25 :: a26 :: a27 :: a28 :: a29 :: Sl.own l :: ρ) := rfl
theorem ev_p30 : uPer 30 (a0 :: a1 :: a2 :: a3 :: a4 :: a5 :: a6 :: a7 :: a8 :: a9 :: a10 :: a11 :: a12 :: a13 :: a14 :: a15 :: a16 :: a17 :: a18 :: a19 :: a20 :: a21 :: a22 :: a23 :: a24 :: a25 :: a26 :: a27 :: a28 :: a29 :: Sl.val d :: ρ) Q = Q d (a0 :: a1 :: a2 :: a3 :: a4 :: a5 :: a6 :: a7 :: a8 :: a9 :: a10 :: a11 :: a12 :: a13 :: a14 :: a15 :: a16 :: a17 :: a18 :: a19 :: a20 :: a21 :: a22 :: a23 :: a24 :: a25 :: a26 :: a27 :: a28 :: a29 :: Sl.val d :: ρ) := rfl
theorem ev_q30 : uPer 30 (a0 :: a1 :: a2 :: a3 :: a4 :: a5 :: a6 :: a7 :: a8 :: a9 :: a10 :: a11 :: a12 :: a13 :: a14 :: a15 :: a16 :: a17 :: a18 :: a19 :: a20 :: a21 :: a22 :: a23 :: a24 :: a25 :: a26 :: a27 :: a28 :: a29 :: Sl.own l :: ρ) Q = Q (.lst l) (a0 :: a1 :: a2 :: a3 :: a4 :: a5 :: a6 :: a7 :: a8 :: a9 :: a10 :: a11 :: a12 :: a13 :: a14 :: a15 :: a16 :: a17 :: a18 :: a19 :: a20 :: a21 :: a22 :: a23 :: a24 :: a25 :: a26 :: a27 :: a28 :: a29 :: Sl.val (.lst l) :: ρ) := rfl
theorem ev_v31 : uVar 31 (a0 :: a1 :: a2 :: a3 :: a4 :: a5 :: a6 :: a7 :: a8 :: a9 :: a10 :: a11 :: a12 :: a13 :: a14 :: a15 :: a16 :: a17 :: a18 :: a19 :: a20 :: a21 :: a22 :: a23 :: a24 :: a25 :: a26 :: a27 :: a28 :: a29 :: a30 :: Sl.val d :: ρ) Q = Q d (a0 :: a1 :: a2 :: a3 :: a4 :: a5 :: a6 :: a7 :: a8 :: a9 :: a10 :: a11 :: a12 :: a13 :: a14 :: a15 :: a16 :: a17 :: a18 :: a19 :: a20 :: a21 :: a22 :: a23 :: a24 :: a25 :: a26 :: a27 :: a28 :: a29 :: a30 :: Sl.val d :: ρ) := rfl
theorem ev_o31 : uVar 31 (a0 :: a1 :: a2 :: a3 :: a4 :: a5 :: a6 :: a7 :: a8 :: a9 :: a10 :: a11 :: a12 :: a13 :: a14 :: a15 :: a16 :: a17 :: a18 :: a19 :: a20 :: a21 :: a22 :: a23 :: a24 :: a25 :: a26 :: a27 :: a28 :: a29 :: a30 :: Sl.own l :: ρ) Q = Q (.lst l) (a0 :: a1 :: a2 :: a3 :: a4 :: a5 :: a6 :: a7 :: a8 :: a9 :: a10 :: a11 :: a12 :: a13 :: a14 :: a15 :: a16 :: a17 :: a18 :: a19 :: a20 :: a21 :: a22 :: a23 :: a24 :: a25 :: a26 :: a27 :: a28 :: a29 :: a30 :: Sl.own l :: ρ) := rfl
theorem ev_p31 : uPer 31 (a0 :: a1 :: a2 :: a3 :: a4 :: a5 :: a6 :: a7 :: a8 :: a9 :: a10 :: a11 :: a12 :: a13 :: a14 :: a15 :: a16 :: a17 :: a18 :: a19 :: a20 :: a21 :: a22 :: a23 :: a24 :: a25 :: a26 :: a27 :: a28 :: a29 :: a30 :: Sl.val d :: ρ) Q = Q d (a0 :: a1 :: a2 :: a3 :: a4 :: a5 :: a6 :: a7 :: a8 :: a9 :: a10 :: a11 :: a12 :: a13 :: a14 :: a15 :: a16 :: a17 :: a18 :: a19 :: a20 :: a21 :: a22 :: a23 :: a24 :: a25 :: a26 :: a27 :: a28 :: a29 :: a30 :: Sl.val d :: ρ) := rfl
theorem ev_q31 : uPer 31 (a0 :: a1 :: a2 :: a3 :: a4 :: a5 :: a6 :: a7 :: a8 :: a9 :: a10 :: a11 :: a12 :: a13 :: a14 :: a15 :: a16 :: a17 :: a18 :: a19 :: a20 :: a21 :: a22 :: a23 :: a24 :: a25 :: a26 :: a27 :: a28 :: a29 :: a30 :: Sl.own l :: ρ) Q = Q (.lst l) (a0 :: a1 :: a2 :: a3 :: a4 :: a5 :: a6 :: a7 :: a8 :: a9 :: a10 :: a11 :: a12 :: a13 :: a14 :: a15 :: a16 :: a17 :: a18 :: a19 :: a20 :: a21 :: a22 :: a23 :: a24 :: a25 :: a26 :: a27 :: a28 :: a29 :: a30 :: Sl.val (.lst l) :: ρ) := rfl
theorem ev_v32 : uVar 32 (a0 :: a1 :: a2 :: a3 :: a4 :: a5 :: a6 :: a7 :: a8 :: a9 :: a10 :: a11 :: a12 :: a13 :: a14 :: a15 :: a16 :: a17 :: a18 :: a19 :: a20 :: a21 :: a22 :: a23 :: a24 :: a25 :: a26 :: a27 :: a28 :: a29 :: a30 :: a31 :: Sl.val d :: ρ) Q = Q d (a0 :: a1 :: a2 :: a3 :: a4 :: a5 :: a6 :: a7 :: a8 :: a9 :: a10 :: a11 :: a12 :: a13 :: a14 :: a15 :: a16 :: a17 :: a18 :: a19 :: a20 :: a21 :: a22 :: a23 :: a24 :: a25 :: a26 :: a27 :: a28 :: a29 :: a30 :: a31 :: Sl.val d :: ρ) := rfl
theorem ev_o32 : uVar 32 (a0 :: a1 :: a2 :: a3 :: a4 :: a5 :: a6 :: a7 :: a8 :: a9 :: a10 :: a11 :: a12 :: a13 :: a14 :: a15 :: a16 :: a17 :: a18 :: a19 :: a20 :: a21 :: a22 :: a23 :: a24 :: a25 :: a26 :: a27 :: a28 :: a29 :: a30 :: a31 :: Sl.own l :: ρ) Q = Q (.lst l) (a0 :: a1 :: a2 :: a3 :: a4 :: a5 :: a6 :: a7 :: a8 :: a9 :: a10 :: a11 :: a12 :: a13 :: a14 :: a15 :: a16 :: a17 :: a18 :: a19 :: a20 :: a21 :: a22 :: a23 :: a24 :: a25 :: a26 :: a27 :: a28 :: a29 :: a30 :: a31 :: Sl.own l :: ρ) := rfl
theorem ev_p32 : uPer 32 (a0 :: a1 :: a2 :: a3 :: a4 :: a5 :: a6 :: a7 :: a8 :: a9 :: a10 :: a11 :: a12 :: a13 :: a14 :: a15 :: a16 :: a17 :: a18 :: a19 :: a20 :: a21 :: a22 :: a23 :: a24 :: a25 :: a26 :: a27 :: a28 :: a29 :: a30 :: a31 :: Sl.val d :: ρ) Q = Q d (a0 :: a1 :: a2 :: a3 :: a4 :: a5 :: a6 :: a7 :: a8 :: a9 :: a10 :: a11 :: a12 :: a13 :: a14 :: a15 :: a16 :: a17 :: a18 :: a19 :: a20 :: a21 :: a22 :: a23 :: a24 :: a25 :: a26 :: a27 :: a28 :: a29 :: a30 :: a31 :: Sl.val d :: ρ) := rfl
theorem ev_q32 : uPer 32 (a0 :: a1 :: a2 :: a3 :: a4 :: a5 :: a6 :: a7 :: a8 :: a9 :: a10 :: a11 :: a12 :: a13 :: a14 :: a15 :: a16 :: a17 :: a18 :: a19 :: a20 :: a21 :: a22 :: a23 :: a24 :: a25 :: a26 :: a27 :: a28 :: a29 :: a30 :: a31 :: Sl.own l :: ρ) Q = Q (.lst l) (a0 :: a1 :: a2 :: a3 :: a4 :: a5 :: a6 :: a7 :: a8 :: a9 :: a10 :: a11 :: a12 :: a13 :: a14 :: a15 :: a16 :: a17 :: a18 :: a19 :: a20 :: a21 :: a22 :: a23 :: a24 :: a25 :: a26 :: a27 :: a28 :: a29 :: a30 :: a31 :: Sl.val (.lst l) :: ρ) := rfl
theorem ev_v33 : uVar 33 (a0 :: a1 :: a2 :: a3 :: a4 :: a5 :: a6 :: a7 :: a8 :: a9 :: a10 :: a11 :: a12 :: a13 :: a14 :: a15 :: a16 :: a17 :: a18 :: a19 :: a20 :: a21 :: a22 :: a23 :: a24 :: a25 :: a26 :: a27 :: a28 :: a29 :: a30 :: a31 :: a32 :: Sl.val d :: ρ) Q = Q d (a0 :: a1 :: a2 :: a3 :: a4 :: a5 :: a6 :: a7 :: a8 :: a9 :: a10 :: a11 :: a12 :: a13 :: a14 :: a15 :: a16 :: a17 :: a18 :: a19 :: a20 :: a21 :: a22 :: a23 :: a24 :: a25 :: a26 :: a27 :: a28 :: a29 :: a30 :: a31 :: a32 :: Sl.val d :: ρ) := rfl
theorem ev_o33 : uVar 33 (a0 :: a1 :: a2 :: a3 :: a4 :: a5 :: a6 :: a7 :: a8 :: a9 :: a10 :: a11 :: a12 :: a13 :: a14 :: a15 :: a16 :: a17 :: a18 :: a19 :: a20 :: a21 :: a22 :: a23 :: a24 :: a25 :: a26 :: a27 :: a28 :: a29 :: a30 :: a31 :: a32 :: Sl.own l :: ρ) Q = Q (.lst l) (a0 :: a1 :: a2 :: a3 :: a4 :: a5 :: a6 :: a7 :: a8 :: a9 :: a10 :: a11 :: a12 :: a13 :: a14 :: a15 :: a16 :: a17 :: a18 :: a19 :: a20 :: a21 :: a22 :: a23 :: a24 :: a25 :: a26 :: a27 :: a28 :: a29 :: a30 :: a31 :: a32 :: Sl.own l :: ρ) := rfl
theorem ev_p33 : uPer 33 (a0 :: a1 :: a2 :: a3 :: a4 :: a5 :: a6 :: a7 :: a8 :: a9 :: a10 :: a11 :: a12 :: a13 :: a14 :: a15 :: a16 :: a17 :: a18 :: a19 :: a20 :: a21 :: a22 :: a23 :: a24 :: a25 :: a26 :: a27 :: a28 :: a29 :: a30 :: a31 :: a32 :: Sl.val d :: ρ) Q = Q d (a0 :: a1 :: a2 :: a3 :: a4 :: a5 :: a6 :: a7 :: a8 :: a9 :: a10 :: a11 :: a12 :: a13 :: a14 :: a15 :: a16 :: a17 :: a18 :: a19 :: a20 :: a21 :: a22 :: a23 :: a24 :: a25 :: a26 :: a27 :: a28 :: a29 :: a30 :: a31 :: a32 :: Sl.val d :: ρ) := rfl
theorem ev_q33 : uPer 33 (a0 :: a1 :: a2 :: a3 :: a4 :: a5 :: a6 :: a7 :: a8 :: a9 :: a10 :: a11 :: a12 :: a13 :: a14 :: a15 :: a16 :: a17 :: a18 :: a19 :: a20 :: a21 :: a22 :: a23 :: a24 :: a25 :: a26 :: a27 :: a28 :: a29 :: a30 :: a31 :: a32 :: Sl.own l :: ρ) Q = Q (.lst l) (a0 :: a1 :: a2 :: a3 :: a4 :: a5 :: a6 :: a7 :: a8 :: a9 :: a10 :: a11 :: a12 :: a13 :: a14 :: a15 :: a16 :: a17 :: a18 :: a19 :: a20 :: a21 :: a22 :: a23 :: a24 :: a25 :: a26 :: a27 :: a28 :: a29 :: a30 :: a31 :: a32 :: Sl.val (.lst l) :: ρ) := rfl
end
end TkL

local macro_rules | `(tactic| walk_at "ew") => do
  let nms (s : String) := (s.splitOn " ").toArray.map fun x => Lean.mkIdent x.toName
  let x1 := nms "TkL.LCT TkL.wipeU TkL.e_lc TkL.e_for TkL.e_seq TkL.e_next TkL.e_break TkL.e_cont TkL.e_asg TkL.e_name TkL.e_asgO TkL.e_par TkL.e_par3 TkL.e_par_vo TkL.e_drop TkL.e_ret TkL.e_retN TkL.e_ifS TkL.e_c TkL.e_op TkL.e_un TkL.e_nil TkL.e_cons TkL.e_cb TkL.e_if TkL.e_andV TkL.e_orV TkL.e_notV TkL.e_B TkL.e_and TkL.e_or TkL.e_not TkL.e_yes TkL.e_chain TkL.e_tup TkL.e_lst TkL.e_def TkL.e_row TkL.e_prp TkL.e_cm TkL.e_tru TkL.e_notT TkL.e_truO TkL.e_mrk TkL.e_part TkL.e_noPart TkL.e_slL TkL.e_slT TkL.e_bms TkL.e_gtup TkL.e_gunl TkL.e_app TkL.e_irng1 TkL.e_irng2 TkL.e_il TkL.e_it TkL.e_qI TkL.e_qI0 TkL.e_exB TkL.e_exR TkL.e_qUpR TkL.e_qUpI TkL.e_qUpN TkL.e_qEqI TkL.e_qNeI TkL.e_qEqB TkL.e_qNeB TkL.e_qEqS TkL.e_qCat TkL.e_qCatA TkL.e_qIxL TkL.e_qIxT TkL.e_len TkL.e_lenT TkL.e_int TkL.e_intB TkL.e_tuple TkL.e_list TkL.e_listL TkL.e_max2 TkL.e_min2 TkL.e_qMrk TkL.e_qMrkN TkL.e_eqT TkL.e_neT TkL.e_eqT0 TkL.e_eqLB TkL.e_neLB TkL.e_notO TkL.e_neg TkL.iL_len List.getElem?_cons_zero List.getElem?_cons_succ List.set_cons_zero List.set_cons_succ List.length_cons List.length_nil Nat.zero_add Nat.reduceAdd Nat.reduceLeDiff true_and and_true if_true if_false Bool.false_eq_true ite_true ite_false reduceIte Bool.not_true Bool.not_false decide_true decide_false Bool.true_eq_false reduceCtorEq TkL.ev_v0 TkL.ev_o0 TkL.ev_p0 TkL.ev_q0 TkL.ev_v1 TkL.ev_o1 TkL.ev_p1 TkL.ev_q1 TkL.ev_v2 TkL.ev_o2 TkL.ev_p2 TkL.ev_q2 TkL.ev_v3 TkL.ev_o3 TkL.ev_p3 TkL.ev_q3 TkL.ev_v4 TkL.ev_o4 TkL.ev_p4 TkL.ev_q4 TkL.ev_v5 TkL.ev_o5 TkL.ev_p5 TkL.ev_q5 TkL.ev_v6 TkL.ev_o6 TkL.ev_p6 TkL.ev_q6 TkL.ev_v7 TkL.ev_o7 TkL.ev_p7 TkL.ev_q7 TkL.ev_v8 TkL.ev_o8 TkL.ev_p8 TkL.ev_q8 TkL.ev_v9 TkL.ev_o9 TkL.ev_p9 TkL.ev_q9 TkL.ev_v10 TkL.ev_o10 TkL.ev_p10 TkL.ev_q10 TkL.ev_v11 TkL.ev_o11 TkL.ev_p11 TkL.ev_q11 TkL.ev_v12 TkL.ev_o12 TkL.ev_p12 TkL.ev_q12 TkL.ev_v13 TkL.ev_o13 TkL.ev_p13 TkL.ev_q13 TkL.ev_v14 TkL.ev_o14 TkL.ev_p14 TkL.ev_q14 TkL.ev_v15 TkL.ev_o15 TkL.ev_p15 TkL.ev_q15 TkL.ev_v16 TkL.ev_o16 TkL.ev_p16 TkL.ev_q16 TkL.ev_v17 TkL.ev_o17 TkL.ev_p17 TkL.ev_q17 TkL.ev_v18 TkL.ev_o18 TkL.ev_p18 TkL.ev_q18 TkL.ev_v19 TkL.ev_o19 TkL.ev_p19 TkL.ev_q19 TkL.ev_v20 TkL.ev_o20 TkL.ev_p20 TkL.ev_q20 TkL.ev_v21 TkL.ev_o21 TkL.ev_p21 TkL.ev_q21 TkL.ev_v22 TkL.ev_o22 TkL.ev_p22 TkL.ev_q22 TkL.ev_v23 TkL.ev_o23 TkL.ev_p23 TkL.ev_q23 TkL.ev_v24 TkL.ev_o24 TkL.ev_p24 TkL.ev_q24 TkL.ev_v25 TkL.ev_o25 TkL.ev_p25 TkL.ev_q25 TkL.ev_v26 TkL.ev_o26 TkL.ev_p26 TkL.ev_q26 TkL.ev_v27 TkL.ev_o27 TkL.ev_p27 TkL.ev_q27 TkL.ev_v28 TkL.ev_o28 TkL.ev_p28 TkL.ev_q28 TkL.ev_v29 TkL.ev_o29 TkL.ev_p29 TkL.ev_q29 TkL.ev_v30 TkL.ev_o30 TkL.ev_p30 TkL.ev_q30 TkL.ev_v31 TkL.ev_o31 TkL.ev_p31 TkL.ev_q31 TkL.ev_v32 TkL.ev_o32 TkL.ev_p32 TkL.ev_q32 TkL.ev_v33 TkL.ev_o33 TkL.ev_p33 TkL.ev_q33"
  let t1 ← `(tactic| simp only [$[$x1:ident],*])
  `(tactic| $t1:tactic)

namespace TkL
open PySem PySem.Spec PySem.Calls PyProof.Rows L2 Tk
structure VB where
  ts : List Int
  b : Int
  l : Int
def VB.d (v : VB) : D := .tup [.lst (iL v.ts), .int v.b, .int v.l]
def VB.at (v : VB) (t : Int) : Int := if t < v.b then t else v.b + (t - v.b) % v.l
def VB.has (v : VB) (t : Int) : Bool := decide (v.at t ∈ v.ts)
structure VOk (v : VB) : Prop where
  s : v.ts.Pairwise (· < ·)
  r : ∀ x ∈ v.ts, 0 ≤ x ∧ x < v.b + v.l
  b0 : 0 ≤ v.b
  l1 : 1 ≤ v.l
  bb : v.b ≤ 100000
  lb : v.l ≤ 400000
end TkL



namespace TkL
open PySem PySem.Spec PySem.Calls PyProof.Rows L2 Tk
section
variable (K : PySem.W.Frag) (C : Addr) (CJ : Addr) (CR : Addr) (T0 : Addr)
end
end TkL


namespace TkL
open PySem PySem.Spec PySem.Calls PyProof.Rows L2 Tk
end TkL


namespace TkL
open Tk
def VB.e (v : VB) : List Int := v.ts.filter fun t => decide (t < v.b)
def VB.o (v : VB) : List Int := (v.ts.filter fun t => decide (v.b ≤ t)).map fun t => t - v.b
theorem VB.o_mem {v : VB} {x : Int} : x ∈ v.o ↔ x + v.b ∈ v.ts ∧ 0 ≤ x := by
  unfold VB.o
  rw [List.mem_map]
  constructor
  · rintro ⟨t, ht, rfl⟩
    have := List.mem_filter.mp ht
    have h2 := of_decide_eq_true this.2
    have e : t - v.b + v.b = t := by omega
    exact ⟨by rw [e]; exact this.1, by omega⟩
  · rintro ⟨h, h0⟩
    exact ⟨x + v.b, List.mem_filter.mpr ⟨h, decide_eq_true (by omega)⟩, by omega⟩
theorem VOk.wf {v : VB} (ok : VOk v) : WF v.e v.b v.l v.o := by
  refine ⟨ok.s.sublist List.filter_sublist, fun x hx => ?_, ok.b0, ok.l1, ?_, fun x hx => ?_⟩
  · have := List.mem_filter.mp hx
    exact ⟨(ok.r x this.1).1, of_decide_eq_true this.2⟩
  · unfold VB.o
    rw [List.pairwise_map]
    exact (ok.s.sublist List.filter_sublist).imp fun h => by omega
  · have := VB.o_mem.mp hx
    have := (ok.r _ this.1).2
    omega
theorem VOk.has {v : VB} (ok : VOk v) (t : Int) : v.has t = qhas v.e v.b v.l v.o t := by
  unfold VB.has VB.at
  have l1 := ok.l1
  by_cases c : t < v.b
  · rw [if_pos c, qhas_lo c, Bool.eq_iff_iff, decide_eq_true_iff, decide_eq_true_iff]
    unfold VB.e
    rw [List.mem_filter]
    exact ⟨fun h => ⟨h, decide_eq_true c⟩, fun h => h.1⟩
  · rw [if_neg c, qhas_hi (by omega), Bool.eq_iff_iff, decide_eq_true_iff, decide_eq_true_iff, VB.o_mem, Int.add_comm]
    exact ⟨fun h => ⟨h, Int.emod_nonneg _ (by omega)⟩, fun h => h.1⟩
theorem VOk.neg {v : VB} (ok : VOk v) {t : Int} (h : t < 0) : v.has t = false := by
  rw [ok.has]; exact qhas_neg ok.wf h
theorem VOk.lo {v : VB} (ok : VOk v) {t : Int} (h : t < v.b) : v.has t = decide (t ∈ v.ts) := by
  unfold VB.has VB.at; rw [if_pos h]
section
variable {v : VB} {r : RV} (ok : VOk v) (cr : Canon r) (h : ∀ t, r.has t = v.has t)
include ok cr h
end
end TkL


namespace Tk
theorem least {p : Nat → Prop} (h : ∃ n, p n) : ∃ n, p n ∧ ∀ m, m < n → ¬ p m := by
  obtain ⟨n, hn⟩ := h
  induction n using Nat.strongRecOn with
  | ind n ih =>
    by_cases c : ∃ m, m < n ∧ p m
    · obtain ⟨m, hm, pm⟩ := c
      exact ih m hm pm
    · exact ⟨n, hn, fun m hm pm => c ⟨m, hm, pm⟩⟩
theorem exists_shortest {l : Int} {o : List Int} (hl : 1 ≤ l) (ow : ∀ x ∈ o, 0 ≤ x ∧ x < l) : ∃ n, Shortest l o n := by
  obtain ⟨n, ⟨n1, dv, cl⟩, mn⟩ := least (p := fun n => 1 ≤ n ∧ l % (n : Int) = 0 ∧ Closed l o n) ⟨l.toNat, by omega, by rw [Int.toNat_of_nonneg (by omega)]; exact Int.emod_self, by rw [Int.toNat_of_nonneg (by omega)]; exact closed_all hl ow⟩
  refine ⟨n, by omega, ?_, dv, cl, fun m h1 h2 z => mn m.toNat (by omega) ⟨by omega, by rw [Int.toNat_of_nonneg (by omega)]; exact z.1, by rw [Int.toNat_of_nonneg (by omega)]; exact z.2⟩⟩
  exact Int.le_of_dvd (by omega) (Int.dvd_of_emod_eq_zero dv)
theorem exists_row {e o : List Int} {b l : Int} (w : WF e b l o) (hb : b ≤ 200000) (hl : l ≤ 20000) : ∃ r, RB r ∧ ∀ t, r.has t = qhas e b l o t := by
  have b0 := w.b0
  have l1 := w.l1
  by_cases ho : o = []
  · have last : e ≠ [] → ∃ z ∈ e, ∀ x ∈ e, x ≤ z := fun hne => by
      have sp := List.dropLast_concat_getLast hne
      refine ⟨e.getLast hne, List.getLast_mem hne, fun x hx => ?_⟩
      have p := w.es
      rw [← sp] at p hx
      rcases List.mem_append.mp hx with q | q
      · have := (List.pairwise_append.mp p).2.2 x q (e.getLast hne) (by simp)
        omega
      · have : x = e.getLast hne := by simpa using q
        omega
    have key : ∀ c : Int, ((e = [] ∧ c = 0) ∨ ∃ z ∈ e, c = z + 1 ∧ ∀ x ∈ e, x ≤ z) → c ≤ 200000 → ∃ r, RB r ∧ ∀ t, r.has t = qhas e b l o t := fun c hc hc2 => by
      have fc := finite_canon w.es (fun x hx => (w.er x hx).1) hc
      refine ⟨⟨e, c, 1, []⟩, ⟨fc.1, hc2, by show (1 : Int) ≤ 20000; decide⟩, fun t => ?_⟩
      rw [fc.2]
      rcases Int.lt_or_le t b with q | q
      · rw [qhas_lo q]
      · rw [qhas_hi q, ho]
        simp only [List.not_mem_nil, decide_false]
        exact decide_eq_false fun z => by have := (w.er t z).2; omega
    by_cases he : e = []
    · exact key 0 (.inl ⟨he, rfl⟩) (by decide)
    · obtain ⟨z, hz, hz2⟩ := last he
      exact key (z + 1) (.inr ⟨z, hz, rfl, hz2⟩) (by have := (w.er z hz).2; omega)
  · obtain ⟨n, s⟩ := exists_shortest l1 w.ow
    have n1 := s.n1
    have pb : Per (qhas e b l o) b n := fun t ht => by
      rw [cyc_hi w s ht, cyc_hi w s (by omega)]
      have e : t + n - b = (t - b) + n := by omega
      rw [e, cyc_per]
    obtain ⟨c, pc, mc⟩ := least (p := fun c => Per (qhas e b l o) (c : Int) n) ⟨b.toNat, by rw [Int.toNat_of_nonneg b0]; exact pb⟩
    have cb : (c : Int) ≤ b := by
      rcases Int.lt_or_le b c with q | q
      · exact absurd (by rw [Int.toNat_of_nonneg b0]; exact pb) (mc b.toNat (by omega))
      · exact q
    have cy : ∀ t, (c : Int) ≤ t → qhas e b l o t = cyc o n (t - b) := fun t ht => by
      have hk : 0 ≤ (b - t).natAbs := Nat.zero_le _
      have := (pc.mul (k := ((b - t).natAbs : Int)) (by omega) (by omega)) t ht
      have hm : (1 : Int) * ((b - t).natAbs : Int) ≤ n * ((b - t).natAbs : Int) := Int.mul_le_mul_of_nonneg_right n1 (by omega)
      rw [this, cyc_hi w s (by omega)]
      unfold cyc
      have e : t + n * ((b - t).natAbs : Int) - b = (t - b) + n * ((b - t).natAbs : Int) := by omega
      rw [e, Int.add_mul_emod_self_left]
    have nc := normal_canon (e' := e.filter fun t => decide (t < (c : Int))) (o' := ((List.range n.toNat).map fun (k : Nat) => (k : Int)).filter fun y => decide (∃ x ∈ o, (x % n + (b - c)) % n = y)) w ho s (c := c) (by omega) cb (fun t h1 h2 => by rw [← cy t h1, qhas_lo h2]) (by
      by_cases c0 : (c : Int) = 0
      · exact .inl c0
      · refine .inr fun z => mc (c - 1) (by omega) fun t ht => ?_
        rcases Int.lt_or_le t c with q | q
        · have et : t = (c : Int) - 1 := by omega
          have cs := s.nl
          rw [cy (t + n) (by omega), et, qhas_lo (by omega), z]
          have e : (c : Int) - 1 + n - b = ((c : Int) - 1 - b) + n := by omega
          rw [e, cyc_per]
        · exact pc t q) (w.es.sublist List.filter_sublist) (fun x => by rw [List.mem_filter, decide_eq_true_iff]) (by
      refine List.Pairwise.sublist List.filter_sublist ?_
      rw [List.pairwise_map]
      exact List.pairwise_lt_range.imp fun h => by omega) (fun y => by
      rw [List.mem_filter, decide_eq_true_iff, List.mem_map]
      constructor
      · exact fun h => h.2
      · intro h
        refine ⟨?_, h⟩
        obtain ⟨x, _, rfl⟩ := h
        have r0 := Int.emod_nonneg (x % n + (b - c)) (show n ≠ 0 by omega)
        have r1 := Int.emod_lt_of_pos (x % n + (b - c)) (show 0 < n by omega)
        exact ⟨((x % n + (b - c)) % n).toNat, List.mem_range.mpr (by omega), by omega⟩)
    have nl := s.nl
    exact ⟨_, ⟨nc.1, by show (c : Int) ≤ 200000; omega, by show n ≤ 20000; omega⟩, nc.2⟩
end Tk
namespace TkL
open Tk
theorem VOk.row {v : VB} (ok : VOk v) (hl : v.l ≤ 20000) : ∃ r, RB r ∧ ∀ t, r.has t = v.has t := by
  have := ok.bb
  obtain ⟨r, rb, h⟩ := exists_row ok.wf (by omega) hl
  exact ⟨r, rb, fun t => by rw [h, ok.has]⟩
theorem _root_.Tk.RB.ext {r s : RV} (a : RB r) (b : RB s) (h : ∀ t, r.has t = s.has t) : r = s := a.c.ext b.c fun t _ => h t
theorem _root_.Tk.RB.dvd {r : RV} (a : RB r) {c n : Int} (hn : 1 ≤ n) (p : Per r.has c n) : r.len ∣ n := by
  have l1 := a.c.wf.l1
  have pm : Per r.has (max r.beg c) r.len := (qhas_per l1).up (by omega)
  have pn : Per r.has (max r.beg c) n := p.up (by omega)
  have pr := Per.rem l1 (by omega) pn pm
  have r0 := Int.emod_nonneg n (show r.len ≠ 0 by omega)
  have r1 := Int.emod_lt_of_pos n (show 0 < r.len by omega)
  refine Int.dvd_of_emod_eq_zero ?_
  rcases Int.lt_or_le (n % r.len) 1 with q | q
  · omega
  · have := a.c.ml _ _ q pr; omega
theorem _root_.Tk.RB.begle {r : RV} (a : RB r) {c n : Int} (hc : 0 ≤ c) (hn : 1 ≤ n) (p : Per r.has c n) : r.beg ≤ c := by
  have l1 := a.c.wf.l1
  obtain ⟨k, hk⟩ := a.dvd hn p
  have b0 := a.c.wf.b0
  refine a.c.mb c hc fun t ht => ?_
  have hk2 : (0 : Int) ≤ (r.beg.natAbs : Int) := by omega
  have m1 := (p.mul (k := (r.beg.natAbs : Int)) (by omega) hk2) t ht
  have m2 := (p.mul (k := (r.beg.natAbs : Int)) (by omega) hk2) (t + r.len) (by omega)
  have hm : (1 : Int) * (r.beg.natAbs : Int) ≤ n * (r.beg.natAbs : Int) := Int.mul_le_mul_of_nonneg_right hn hk2
  rw [m1, m2]
  have e : t + r.len + n * (r.beg.natAbs : Int) = t + n * (r.beg.natAbs : Int) + r.len := by omega
  rw [e]
  exact qhas_per l1 _ (by omega)
end TkL


namespace TkL
open PySem PySem.Spec PySem.Calls PyProof.Rows L2 Tk
end TkL


namespace TkL
open PySem PySem.Spec PySem.Calls PyProof.Rows L2 Tk
theorem VOk.tl {v : VB} (ok : VOk v) : v.ts.length ≤ 510000 := by
  have := len_of_range ok.s ok.r (by have := ok.b0; have := ok.l1; omega)
  have := ok.bb; have := ok.lb
  omega
end TkL


namespace TkL
open PySem PySem.Spec PySem.Calls PyProof.Rows L2 Tk
theorem gJoin_s {z : Str} {ys : List Str} {P : D → Prop} (hz : (ys.map (·.length)).sum + ys.length * z.length ≤ 16777216) (h : P (.str (Txt.join z ys))) : gJoin z [.lst (strL ys)] P := ⟨ys, rfl, hz, h⟩
theorem wsum_ok {ws : List Str} (h : ∀ p ∈ ws, p.length ≤ 6) (hn : ws.length ≤ 1000000) : (ws.map (·.length)).sum + ws.length * (" " : Str).length ≤ 16777216 := by
  have wc := wsum_le _ _ h
  have : (" " : Str).length = 1 := by decide
  rw [this]; omega
theorem gStr_n {i : Int} {P : D → Prop} (h0 : 0 ≤ i) (h1 : i < 1000000) (h : P (.str (numS i))) : gStr [.int i] P := ⟨log_small h0 h1, h⟩
theorem diffs_rng : ∀ l : List Int, diffs l = (List.range (l.length - 1)).map fun k => l.getD (k + 1) 0 - l.getD k 0
  | [] => rfl
  | [_] => rfl
  | a :: b :: l => by
    show (b - a) :: diffs (b :: l) = _
    rw [diffs_rng (b :: l)]
    show _ = (List.range (l.length + 1)).map _
    rw [List.range_succ_eq_map, List.map_cons, List.map_map]
    rfl
theorem diffs_len {l : List Int} : (diffs l).length = l.length - 1 := by rw [diffs_rng, List.length_map, List.length_range]
end TkL


namespace TkL
open PySem PySem.Spec PySem.Calls PyProof.Rows L2 Tk
theorem below_i {n : Int} {P : D → Prop} (h0 : 0 < n) (h1 : n < 1073741824) (h : ∀ v, 0 ≤ v → v < n → P (.int v)) : upBelow [.src, .int n] P := ⟨n, rfl, h0, h1, h⟩
end TkL


namespace TkL
open PySem PySem.Spec PySem.Calls PyProof.Rows L2 Tk
structure RD (N M : Int) (r : RV) : Prop where
  rb : RB r
  dv : r.len ∣ N
  bm : r.beg ≤ M
theorem RD.of {N M : Int} {r : RV} (rb : RB r) (hN : 1 ≤ N) (hM : 0 ≤ M) (p : Per r.has M N) : RD N M r := ⟨rb, rb.dvd hN p, rb.begle hM hN p⟩
section
variable {N M : Int} (hN : 1 ≤ N ∧ N ≤ 20000) (hM : 0 ≤ M) {r s : RV} {P : D → Prop}
include hN hM
end
end TkL


namespace TkL
open PySem PySem.Spec PySem.Calls PyProof.Rows L2 Tk
def tyD : D → Option String
  | .int _ => some "int" | .bl _ => some "bool" | .str _ => some "str" | .non => some "NoneType" | .tup _ => some "tuple" | .lst _ => some "list" | _ => none
def isiD (d : D) (T : String) : Option Bool := match tyD d with | some a => kitB a T | none => none
def uIsi (T : String) (a : UE) : UE := fun ρ Q => a ρ fun x ρ1 => ∃ b, isiD x T = some b ∧ Q (.bl b) ρ1
section
variable {B : Bs} {t : TE} {u : UE}
theorem RepW.tyX {H F : Hp} {v : V} {d : D} {T : String} (R : RelH B H F) (h : RepW B F H v d) (e : tyD d = some T) : TyX B.K H v (.type T) := by
  cases d with
  | int i => cases e; cases h; exact .base (.int _)
  | bl i => cases e; cases h; exact .base (.bl _)
  | str i => cases e; cases h; exact .base (.str _)
  | non => cases e; cases h; exact .base .non
  | tup l =>
    cases e
    obtain ⟨p, vs, rfl, a, b, c⟩ := h.tup R
    rcases a with a | ⟨o, its, n, a, b, _⟩
    · rcases a with a | ⟨o, a⟩
      · exact .base (.tup a)
      · exact .fTuple a
    · exact .kTuple a b
  | lst l =>
    cases e
    obtain ⟨p, vs, rfl, _, a, b⟩ := h
    exact .base (.lst a)
  | _ => cases e
theorem sE_isi {T : String} (ha : SimW B t u) : SimE B (tCB (kIsi B.K) (tCons t (tCons (tC (.ty T)) tNil))) (uIsi T u) := fun H F σ ρ Q P R hu k =>
  ha H F σ ρ _ _ R hu fun H1 F1 x dx ρ1 e1 k1 R1 r1 p1 => by
    obtain ⟨b, hb, p⟩ := p1
    unfold isiD at hb
    cases h : tyD dx with
    | none => rw [h] at hb; cases hb
    | some a =>
      rw [h] at hb
      exact ⟨x, _, _, _, b, rfl, .ty T, r1.tyX R1.toRelH h, L2.kit_ty hb, k H1 F1 _ _ ρ1 e1 k1 R1 .bl p⟩
def qIx : U2 := fun x y P => match x, y with | .lst l, .int n => qIxL (.lst l) (.int n) P | .tup l, .int n => qIxT (.tup l) (.int n) P | _, _ => False
theorem s2_ix : Sim2 B (rIx B.K) qIx := fun H F x y dx dy Q P R rx ry hq k => by
  unfold qIx at hq
  split at hq
  · exact .inl (s2_ixL H F x y _ _ Q P R rx ry hq k)
  · exact .inr (.inl (s2_ixT H F x y _ _ Q P R rx ry hq k))
  · exact hq.elim
end
def PlD : Nat → D → Prop
  | _, .int _ => True
  | _, .bl _ => True
  | _, .str _ => True
  | _, .non => True
  | n + 1, .tup l => l.length ≤ 1000 ∧ ∀ x ∈ l, PlD n x
  | n + 1, .lst l => l.length ≤ 1000 ∧ ∀ x ∈ l, PlD n x
  | _, _ => False
def upEqualN (n : Nat) : UP := fun ds P => ∃ a e, ds = [a, e] ∧ PlD n a ∧ PlD n e ∧ ∀ c, (c = true ↔ a = e) → P (.bl c)
def upEqual0 : Nat → UP
  | 0 => fun _ _ => False
  | n + 1 => upEqualN n
abbrev upEqual : UP := upEqualN 3
theorem e_isi {T : String} {a : UE} {ρ : Env} {Q : D → Env → Prop} : uIsi T a ρ Q = a ρ fun x ρ1 => ∃ b, isiD x T = some b ∧ Q (.bl b) ρ1 := rfl
theorem ix_i {d e : D} {P : D → Prop} (l : List D) (he : d = .lst l ∨ d = .tup l) {k : Nat} (hk : l[k]? = some e) (h : P e) : qIx d (.int k) P := by
  rcases he with rfl | rfl
  · exact ⟨_, atI_c hk, h⟩
  · exact ⟨_, atI_c hk, h⟩
theorem all_i {l : List Bool} {P : D → Prop} (h : P (.bl (l.all id))) : gAll [.lst (bL l)] P := ⟨l, rfl, h⟩
theorem isn_i {x : D} {P : D → Prop} (h : P (.bl (isNonD x))) : qIsNon x .non P := h
theorem PlD.up {n : Nat} {d : D} (h : PlD (n + 1) d) : PlD (n + 1) d := h
theorem is_int_bool {i : Int} {Q : Bool → Prop} : (∃ b, isiD (.int i) "bool" = some b ∧ Q b) ↔ Q false := ⟨fun ⟨b, e, h⟩ => by rw [show isiD (.int i) "bool" = some false from (show kitB "int" "bool" = some false by decide +kernel)] at e; cases e; exact h, fun h => ⟨_, show kitB "int" "bool" = some false by decide +kernel, h⟩⟩
theorem is_int_int {i : Int} {Q : Bool → Prop} : (∃ b, isiD (.int i) "int" = some b ∧ Q b) ↔ Q true := ⟨fun ⟨b, e, h⟩ => by rw [show isiD (.int i) "int" = some true from (show kitB "int" "int" = some true by decide +kernel)] at e; cases e; exact h, fun h => ⟨_, show kitB "int" "int" = some true by decide +kernel, h⟩⟩
theorem is_int_str {i : Int} {Q : Bool → Prop} : (∃ b, isiD (.int i) "str" = some b ∧ Q b) ↔ Q false := ⟨fun ⟨b, e, h⟩ => by rw [show isiD (.int i) "str" = some false from (show kitB "int" "str" = some false by decide +kernel)] at e; cases e; exact h, fun h => ⟨_, show kitB "int" "str" = some false by decide +kernel, h⟩⟩
theorem is_int_tuple {i : Int} {Q : Bool → Prop} : (∃ b, isiD (.int i) "tuple" = some b ∧ Q b) ↔ Q false := ⟨fun ⟨b, e, h⟩ => by rw [show isiD (.int i) "tuple" = some false from (show kitB "int" "tuple" = some false by decide +kernel)] at e; cases e; exact h, fun h => ⟨_, show kitB "int" "tuple" = some false by decide +kernel, h⟩⟩
theorem is_int_list {i : Int} {Q : Bool → Prop} : (∃ b, isiD (.int i) "list" = some b ∧ Q b) ↔ Q false := ⟨fun ⟨b, e, h⟩ => by rw [show isiD (.int i) "list" = some false from (show kitB "int" "list" = some false by decide +kernel)] at e; cases e; exact h, fun h => ⟨_, show kitB "int" "list" = some false by decide +kernel, h⟩⟩
theorem is_bl_bool {i : Bool} {Q : Bool → Prop} : (∃ b, isiD (.bl i) "bool" = some b ∧ Q b) ↔ Q true := ⟨fun ⟨b, e, h⟩ => by rw [show isiD (.bl i) "bool" = some true from (show kitB "bool" "bool" = some true by decide +kernel)] at e; cases e; exact h, fun h => ⟨_, show kitB "bool" "bool" = some true by decide +kernel, h⟩⟩
theorem is_bl_int {i : Bool} {Q : Bool → Prop} : (∃ b, isiD (.bl i) "int" = some b ∧ Q b) ↔ Q true := ⟨fun ⟨b, e, h⟩ => by rw [show isiD (.bl i) "int" = some true from (show kitB "bool" "int" = some true by decide +kernel)] at e; cases e; exact h, fun h => ⟨_, show kitB "bool" "int" = some true by decide +kernel, h⟩⟩
theorem is_bl_str {i : Bool} {Q : Bool → Prop} : (∃ b, isiD (.bl i) "str" = some b ∧ Q b) ↔ Q false := ⟨fun ⟨b, e, h⟩ => by rw [show isiD (.bl i) "str" = some false from (show kitB "bool" "str" = some false by decide +kernel)] at e; cases e; exact h, fun h => ⟨_, show kitB "bool" "str" = some false by decide +kernel, h⟩⟩
theorem is_bl_tuple {i : Bool} {Q : Bool → Prop} : (∃ b, isiD (.bl i) "tuple" = some b ∧ Q b) ↔ Q false := ⟨fun ⟨b, e, h⟩ => by rw [show isiD (.bl i) "tuple" = some false from (show kitB "bool" "tuple" = some false by decide +kernel)] at e; cases e; exact h, fun h => ⟨_, show kitB "bool" "tuple" = some false by decide +kernel, h⟩⟩
theorem is_bl_list {i : Bool} {Q : Bool → Prop} : (∃ b, isiD (.bl i) "list" = some b ∧ Q b) ↔ Q false := ⟨fun ⟨b, e, h⟩ => by rw [show isiD (.bl i) "list" = some false from (show kitB "bool" "list" = some false by decide +kernel)] at e; cases e; exact h, fun h => ⟨_, show kitB "bool" "list" = some false by decide +kernel, h⟩⟩
theorem is_str_bool {i : Str} {Q : Bool → Prop} : (∃ b, isiD (.str i) "bool" = some b ∧ Q b) ↔ Q false := ⟨fun ⟨b, e, h⟩ => by rw [show isiD (.str i) "bool" = some false from (show kitB "str" "bool" = some false by decide +kernel)] at e; cases e; exact h, fun h => ⟨_, show kitB "str" "bool" = some false by decide +kernel, h⟩⟩
theorem is_str_int {i : Str} {Q : Bool → Prop} : (∃ b, isiD (.str i) "int" = some b ∧ Q b) ↔ Q false := ⟨fun ⟨b, e, h⟩ => by rw [show isiD (.str i) "int" = some false from (show kitB "str" "int" = some false by decide +kernel)] at e; cases e; exact h, fun h => ⟨_, show kitB "str" "int" = some false by decide +kernel, h⟩⟩
theorem is_str_str {i : Str} {Q : Bool → Prop} : (∃ b, isiD (.str i) "str" = some b ∧ Q b) ↔ Q true := ⟨fun ⟨b, e, h⟩ => by rw [show isiD (.str i) "str" = some true from (show kitB "str" "str" = some true by decide +kernel)] at e; cases e; exact h, fun h => ⟨_, show kitB "str" "str" = some true by decide +kernel, h⟩⟩
theorem is_str_tuple {i : Str} {Q : Bool → Prop} : (∃ b, isiD (.str i) "tuple" = some b ∧ Q b) ↔ Q false := ⟨fun ⟨b, e, h⟩ => by rw [show isiD (.str i) "tuple" = some false from (show kitB "str" "tuple" = some false by decide +kernel)] at e; cases e; exact h, fun h => ⟨_, show kitB "str" "tuple" = some false by decide +kernel, h⟩⟩
theorem is_str_list {i : Str} {Q : Bool → Prop} : (∃ b, isiD (.str i) "list" = some b ∧ Q b) ↔ Q false := ⟨fun ⟨b, e, h⟩ => by rw [show isiD (.str i) "list" = some false from (show kitB "str" "list" = some false by decide +kernel)] at e; cases e; exact h, fun h => ⟨_, show kitB "str" "list" = some false by decide +kernel, h⟩⟩
theorem is_non_bool  {Q : Bool → Prop} : (∃ b, isiD (.non) "bool" = some b ∧ Q b) ↔ Q false := ⟨fun ⟨b, e, h⟩ => by rw [show isiD (.non) "bool" = some false from (show kitB "NoneType" "bool" = some false by decide +kernel)] at e; cases e; exact h, fun h => ⟨_, show kitB "NoneType" "bool" = some false by decide +kernel, h⟩⟩
theorem is_non_int  {Q : Bool → Prop} : (∃ b, isiD (.non) "int" = some b ∧ Q b) ↔ Q false := ⟨fun ⟨b, e, h⟩ => by rw [show isiD (.non) "int" = some false from (show kitB "NoneType" "int" = some false by decide +kernel)] at e; cases e; exact h, fun h => ⟨_, show kitB "NoneType" "int" = some false by decide +kernel, h⟩⟩
theorem is_non_str  {Q : Bool → Prop} : (∃ b, isiD (.non) "str" = some b ∧ Q b) ↔ Q false := ⟨fun ⟨b, e, h⟩ => by rw [show isiD (.non) "str" = some false from (show kitB "NoneType" "str" = some false by decide +kernel)] at e; cases e; exact h, fun h => ⟨_, show kitB "NoneType" "str" = some false by decide +kernel, h⟩⟩
theorem is_non_tuple  {Q : Bool → Prop} : (∃ b, isiD (.non) "tuple" = some b ∧ Q b) ↔ Q false := ⟨fun ⟨b, e, h⟩ => by rw [show isiD (.non) "tuple" = some false from (show kitB "NoneType" "tuple" = some false by decide +kernel)] at e; cases e; exact h, fun h => ⟨_, show kitB "NoneType" "tuple" = some false by decide +kernel, h⟩⟩
theorem is_non_list  {Q : Bool → Prop} : (∃ b, isiD (.non) "list" = some b ∧ Q b) ↔ Q false := ⟨fun ⟨b, e, h⟩ => by rw [show isiD (.non) "list" = some false from (show kitB "NoneType" "list" = some false by decide +kernel)] at e; cases e; exact h, fun h => ⟨_, show kitB "NoneType" "list" = some false by decide +kernel, h⟩⟩
theorem is_tup_bool {i : List D} {Q : Bool → Prop} : (∃ b, isiD (.tup i) "bool" = some b ∧ Q b) ↔ Q false := ⟨fun ⟨b, e, h⟩ => by rw [show isiD (.tup i) "bool" = some false from (show kitB "tuple" "bool" = some false by decide +kernel)] at e; cases e; exact h, fun h => ⟨_, show kitB "tuple" "bool" = some false by decide +kernel, h⟩⟩
theorem is_tup_int {i : List D} {Q : Bool → Prop} : (∃ b, isiD (.tup i) "int" = some b ∧ Q b) ↔ Q false := ⟨fun ⟨b, e, h⟩ => by rw [show isiD (.tup i) "int" = some false from (show kitB "tuple" "int" = some false by decide +kernel)] at e; cases e; exact h, fun h => ⟨_, show kitB "tuple" "int" = some false by decide +kernel, h⟩⟩
theorem is_tup_str {i : List D} {Q : Bool → Prop} : (∃ b, isiD (.tup i) "str" = some b ∧ Q b) ↔ Q false := ⟨fun ⟨b, e, h⟩ => by rw [show isiD (.tup i) "str" = some false from (show kitB "tuple" "str" = some false by decide +kernel)] at e; cases e; exact h, fun h => ⟨_, show kitB "tuple" "str" = some false by decide +kernel, h⟩⟩
theorem is_tup_tuple {i : List D} {Q : Bool → Prop} : (∃ b, isiD (.tup i) "tuple" = some b ∧ Q b) ↔ Q true := ⟨fun ⟨b, e, h⟩ => by rw [show isiD (.tup i) "tuple" = some true from (show kitB "tuple" "tuple" = some true by decide +kernel)] at e; cases e; exact h, fun h => ⟨_, show kitB "tuple" "tuple" = some true by decide +kernel, h⟩⟩
theorem is_tup_list {i : List D} {Q : Bool → Prop} : (∃ b, isiD (.tup i) "list" = some b ∧ Q b) ↔ Q false := ⟨fun ⟨b, e, h⟩ => by rw [show isiD (.tup i) "list" = some false from (show kitB "tuple" "list" = some false by decide +kernel)] at e; cases e; exact h, fun h => ⟨_, show kitB "tuple" "list" = some false by decide +kernel, h⟩⟩
theorem is_lst_bool {i : List D} {Q : Bool → Prop} : (∃ b, isiD (.lst i) "bool" = some b ∧ Q b) ↔ Q false := ⟨fun ⟨b, e, h⟩ => by rw [show isiD (.lst i) "bool" = some false from (show kitB "list" "bool" = some false by decide +kernel)] at e; cases e; exact h, fun h => ⟨_, show kitB "list" "bool" = some false by decide +kernel, h⟩⟩
theorem is_lst_int {i : List D} {Q : Bool → Prop} : (∃ b, isiD (.lst i) "int" = some b ∧ Q b) ↔ Q false := ⟨fun ⟨b, e, h⟩ => by rw [show isiD (.lst i) "int" = some false from (show kitB "list" "int" = some false by decide +kernel)] at e; cases e; exact h, fun h => ⟨_, show kitB "list" "int" = some false by decide +kernel, h⟩⟩
theorem is_lst_str {i : List D} {Q : Bool → Prop} : (∃ b, isiD (.lst i) "str" = some b ∧ Q b) ↔ Q false := ⟨fun ⟨b, e, h⟩ => by rw [show isiD (.lst i) "str" = some false from (show kitB "list" "str" = some false by decide +kernel)] at e; cases e; exact h, fun h => ⟨_, show kitB "list" "str" = some false by decide +kernel, h⟩⟩
theorem is_lst_tuple {i : List D} {Q : Bool → Prop} : (∃ b, isiD (.lst i) "tuple" = some b ∧ Q b) ↔ Q false := ⟨fun ⟨b, e, h⟩ => by rw [show isiD (.lst i) "tuple" = some false from (show kitB "list" "tuple" = some false by decide +kernel)] at e; cases e; exact h, fun h => ⟨_, show kitB "list" "tuple" = some false by decide +kernel, h⟩⟩
theorem is_lst_list {i : List D} {Q : Bool → Prop} : (∃ b, isiD (.lst i) "list" = some b ∧ Q b) ↔ Q true := ⟨fun ⟨b, e, h⟩ => by rw [show isiD (.lst i) "list" = some true from (show kitB "list" "list" = some true by decide +kernel)] at e; cases e; exact h, fun h => ⟨_, show kitB "list" "list" = some true by decide +kernel, h⟩⟩
def qRepA : U2 := fun x y P => match x, y with | .tup l, .int k => (l ≠ [] ∧ 1 ≤ k ∧ k ≤ 1000 ∧ l.length ≤ 1000) ∧ P (.tup (List.replicate k.toNat l).flatten) | _, _ => False
theorem s2_RepA {B : Bs} : Sim2 B (rRepA B.K) qRepA := fun H F x y dx dy Q P R rx ry hq k => by
  unfold qRepA at hq
  split at hq
  · rename_i l n
    obtain ⟨⟨h1, h2, h3, h4⟩, p⟩ := hq
    by_cases c : n = 1
    · subst c
      have e : (List.replicate (1 : Int).toNat l).flatten = l := by show (List.replicate 1 l).flatten = l; simp
      rw [e] at p
      obtain ⟨q, vs, rfl, a, b, d⟩ := rx.tup R
      cases ry
      exact .inr ⟨q, vs, rfl, rfl, a, k H F _ _ .refl (.tup d b) p⟩
    · exact .inl (s2_RepT H F x y _ _ Q P R rx ry ⟨⟨h1, by omega, h3, h4⟩, p⟩ k)
  · exact hq.elim
end TkL


namespace TkL
open PySem PySem.Spec PySem.Calls PyProof.Rows L2 Tk
end TkL


namespace TkL
open PySem PySem.Spec PySem.Calls PyProof.Rows L2 Tk
def uFB (a : UE) : UE := fun ρ Q => a ρ fun x ρ1 => match x with | .row r => Q (.int r.beg) ρ1 | _ => False
def uFL (a : UE) : UE := fun ρ Q => a ρ fun x ρ1 => match x with | .row r => Q (.int r.len) ρ1 | _ => False
def uFE (a : UE) : UE := fun ρ Q => a ρ fun x ρ1 => match x with | .row r => Q (.tup (iL r.early)) ρ1 | _ => False
def uFO (a : UE) : UE := fun ρ Q => a ρ fun x ρ1 => match x with | .row r => Q (.tup (iL r.offs)) ρ1 | _ => False
section
variable {B : Bs} {t : TE} {u : UE}
def uNever : US := fun _ _ => False
end
section
variable {P : UEnds} {ρ : Env} {a : UE} {Q : D → Env → Prop} {r : RV}
theorem e_fB : uFB a ρ Q = a ρ fun x ρ1 => match x with | .row r => Q (.int r.beg) ρ1 | _ => False := rfl
theorem e_fL : uFL a ρ Q = a ρ fun x ρ1 => match x with | .row r => Q (.int r.len) ρ1 | _ => False := rfl
theorem e_fE : uFE a ρ Q = a ρ fun x ρ1 => match x with | .row r => Q (.tup (iL r.early)) ρ1 | _ => False := rfl
theorem e_fO : uFO a ρ Q = a ρ fun x ρ1 => match x with | .row r => Q (.tup (iL r.offs)) ρ1 | _ => False := rfl
theorem e_never : uNever P ρ = False := rfl
theorem e_enum {A : UA} {Qi : List D → Env → Prop} : uEnum A ρ Qi = A ρ fun ds ρ1 => match ds with | [.lst l] => Qi (enD l) ρ1 | [.tup l] => Qi (enD l) ρ1 | _ => False := rfl
theorem e_rng3 {A : UA} {Qi : List D → Env → Prop} : uIRng3 A ρ Qi = A ρ fun ds ρ1 => ∃ (i j c : Int) (n : Nat), ds = [.int i, .int j, .int c] ∧ RgC i j c n ∧ Qi (rngCD i c n) ρ1 := rfl
theorem e_ext {i : Nat} : uExt i a P ρ = ((∃ l0, ρ[i]? = some (.own l0)) ∧ a ρ fun d ρ1 => ∃ l m, ρ1[i]? = some (.own l) ∧ d = .lst m ∧ l.length + m.length ≤ 1000000 ∧ P.nx (ρ1.set i (.own (l ++ m)))) := rfl
end
def upIii : UP := fun ds P => ∃ x lo hi, ds = [x, .int lo, .int hi] ∧ ((∃ i, x = .int i ∧ P (.bl (decide (lo ≤ i) && decide (i ≤ hi)))) ∨ ((∃ b, x = .bl b) ∨ x = .non ∨ ∃ z, x = .str z) ∧ P (.bl false) ∨ (∃ l, x = .tup l) ∧ P (.bl false))
section
variable {K : PySem.W.Frag} {C : Addr} {H : Hp} {vs : List V} {Q : VK} {E : XK}
theorem ad_iii (h : spU K C upIii vs H Q E) : spIii K vs H Q E := by
  obtain ⟨dO, F, ds, P, R, r, ⟨x, lo, hi, rfl, p⟩, k⟩ := h
  cases r with | cons a r => cases r with | cons b r => cases r with | cons c r =>
    cases r; cases b; cases c
    rcases p with ⟨i, rfl, p⟩ | ⟨⟨y, rfl⟩ | rfl | ⟨y, rfl⟩, p⟩ | ⟨⟨l, rfl⟩, p⟩
    · cases a; exact ⟨_, _, _, rfl, .inl ⟨_, rfl, k _ H _ _ p R .bl⟩⟩
    · cases a; exact ⟨_, _, _, rfl, .inr (.inl ⟨.inl ⟨_, rfl⟩, k _ H _ _ p R .bl⟩)⟩
    · cases a; exact ⟨_, _, _, rfl, .inr (.inl ⟨.inr (.inl rfl), k _ H _ _ p R .bl⟩)⟩
    · cases a; exact ⟨_, _, _, rfl, .inr (.inl ⟨.inr (.inr ⟨_, rfl⟩), k _ H _ _ p R .bl⟩)⟩
    · refine ⟨_, _, _, rfl, .inr (.inr ⟨?_, k _ H _ _ p R .bl⟩)⟩
      cases a with
      | tup h1 h2 =>
        rcases R.fh.sqT h1 with a | ⟨o, its, n, a, b, _⟩
        · rcases a with a | ⟨o, a⟩
          · exact .base (.tup a)
          · exact .fTuple a
        · exact .kTuple a b
end
end TkL


namespace TkL
open PySem PySem.Spec PySem.Calls PyProof.Rows L2
section
variable {X : Cx}
end
end TkL


namespace TkL
open PySem PySem.Spec PySem.Calls PyProof.Rows L2 Tk
def uAugI (i : Nat) (a b : UE) (f : Int → Int → Int) : US := fun P ρ => (∃ l0, ρ[i]? = some (.own l0)) ∧ a ρ fun x ρ1 => ∃ l k j n, ρ1[i]? = some (.own l) ∧ x = .int k ∧ ixN l.length k = some j ∧ l[j]? = some (.int n) ∧ b ρ1 fun y ρ2 => ∃ m l2, y = .int m ∧ ρ2[i]? = some (.own l2) ∧ ixN l2.length k = some j ∧ P.nx (ρ2.set i (.own (l2.set j (.int (f n m)))))
section
variable {B : Bs} {ta tb : TE} {ua ub : UE} {i : Nat} {f : Int → Int → Int}
end
section
variable {P : UEnds} {ρ : Env} {a b : UE} {i : Nat} {f : Int → Int → Int}
theorem e_augI : uAugI i a b f P ρ = ((∃ l0, ρ[i]? = some (.own l0)) ∧ a ρ fun x ρ1 => ∃ l k j n, ρ1[i]? = some (.own l) ∧ x = .int k ∧ ixN l.length k = some j ∧ l[j]? = some (.int n) ∧ b ρ1 fun y ρ2 => ∃ m l2, y = .int m ∧ ρ2[i]? = some (.own l2) ∧ ixN l2.length k = some j ∧ P.nx (ρ2.set i (.own (l2.set j (.int (f n m)))))) := rfl
end
end TkL


namespace TkL
open PySem PySem.Spec PySem.Calls PyProof.Rows L2 Tk
section
variable {B : Bs} {H F : Hp}
variable {t ta : TE} {u ua : UE} {A : TA} {U : UA} {ts ts' : TS} {us us' : US} {tt : TT} {ut : UT}
def uRetO (i : Nat) (O : List D → Prop) : US := fun _ ρ => ∃ l, ρ[i]? = some (.own l) ∧ O l
def uRetN' (a : UE) (O : List D → Prop) : US := fun _ ρ => a ρ fun d _ => ∃ l, d = .lst l ∧ O l
def uBor (t : UT) : UT := fun ρ P => t ρ fun c ρ' => P c ρ
end
section
variable {P : UEnds} {ρ : Env} {O : List D → Prop} {a : UE} {k : UT} {QT : Bool → Env → Prop} {i : Nat}
theorem e_bor : uBor k ρ QT = k ρ fun c _ => QT c ρ := rfl
theorem e_retO : uRetO i O P ρ = ∃ l, ρ[i]? = some (.own l) ∧ O l := rfl
theorem e_retNO : uRetN' a O P ρ = a ρ fun d _ => ∃ l, d = .lst l ∧ O l := rfl
end
def uPar_ovv (i j l : Nat) (a b : UE) : US := fun P ρ => a ρ fun d ρ1 => b ρ1 fun e ρ2 => P.nx (((ρ2.set i (.own [])).set j (.val d)).set l (.val e))
section
variable {B : Bs} {ta tb : TE} {ua ub : UE}
end
theorem e_par_ovv {P : UEnds} {ρ : Env} {a b : UE} {i j l : Nat} : uPar_ovv i j l a b P ρ = a ρ fun d ρ1 => b ρ1 fun e ρ2 => P.nx (((ρ2.set i (.own [])).set j (.val d)).set l (.val e)) := rfl
theorem e_setI {P : UEnds} {ρ : Env} {a b : UE} {i : Nat} : uSetI i a b P ρ = b ρ fun d ρ1 => (∃ l0, ρ1[i]? = some (.own l0)) ∧ a ρ1 fun x ρ2 => ∃ l k j, ρ2[i]? = some (.own l) ∧ x = .int k ∧ ixN l.length k = some j ∧ P.nx (ρ2.set i (.own (l.set j d))) := rfl
end TkL


namespace TkL
open PySem PySem.Spec PySem.Calls PyProof.Rows L2 Tk
def uMk (a : UA) : UE := fun ρ P => a ρ fun ds ρ1 => ∃ r, ds = [.tup (iL r.early), .int r.beg, .int r.len, .tup (iL r.offs)] ∧ RB r ∧ P (.row r) ρ1
section
variable {B : Bs} {A : TA} {U : UA}
end
theorem e_mk {a : UA} {ρ : Env} {P : D → Env → Prop} : uMk a ρ P = a ρ fun ds ρ1 => ∃ r, ds = [.tup (iL r.early), .int r.beg, .int r.len, .tup (iL r.offs)] ∧ RB r ∧ P (.row r) ρ1 := rfl
end TkL


namespace TkL
open Tk L2
section
variable {N M : Int} {a b c x y z u v w : RV}
theorem RD.wf (h : RD N M a) : WF a.early a.beg a.len a.offs := h.rb.c.wf
end
end TkL


namespace TkL
open PySem PySem.Spec PySem.Calls PyProof.Rows L2 Tk
theorem rngD_mem0 {n i : Nat} {d : D} (h : (rngD 0 n)[i]? = some d) : i < n ∧ d = .int i := by
  have hi := lt_of_get h
  rw [rngD_length] at hi
  rw [rngD_get hi] at h
  refine ⟨hi, ?_⟩
  cases h
  rw [Int.zero_add]
section
variable {r : RV} {v : VB} {P : D → Prop} {t : Int}
end
structure PlU (v : VB) (r : RV) : Prop where
  ok : VOk v
  rb : RB r
  hr : ∀ t, r.has t = v.has t
  ho : r.offs ≠ []
  ll : r.len ≤ 720
  bb : r.beg ≤ 300
  vb : v.b ≤ 300
  vl : v.l ≤ 720
  pr : PR r v.l
  vt : v.ts.length ≤ 1000
section
variable {m s : Int} {fs ls : List Int} {P : D → Prop}
end
section
variable {r : RV}
end
end TkL



namespace TkL
open PySem PySem.Spec PySem.Calls PyProof.Rows L2 Tk
section
variable (K : PySem.W.Frag) (C : Addr) (CJ : Addr) (CR : Addr) (T0 : Addr)
def tULequal (up : UP) : TS := (tSeq (tIfS (tTest (tOp rIsNon (tVar 1) (tC .non))) (tRet (tOp rIsNon (tVar 0) (tC .non))) tNext)
    (tSeq (tIfS (tB (tCB (kIsi K) (tCons (tVar 1) (tCons (tC (.ty "bool")) tNil)))) (tRet (tAndV (tCB (kIsi K) (tCons (tVar 0) (tCons (tC (.ty "bool")) tNil))) (tOp rEq (tVar 0) (tVar 1)))) tNext)
    (tSeq (tIfS (tB (tCB (kIsi K) (tCons (tVar 1) (tCons (tC (.ty "int")) tNil)))) (tRet (tAndV (tCB (kIsi K) (tCons (tVar 0) (tCons (tC (.ty "int")) tNil))) (tAndV (tNotV (tCB (kIsi K) (tCons (tVar 0) (tCons (tC (.ty "bool")) tNil)))) (tOp rEq (tVar 0) (tVar 1))))) tNext)
    (tSeq (tIfS (tB (tCB (kIsi K) (tCons (tVar 1) (tCons (tC (.ty "str")) tNil)))) (tRet (tAndV (tCB (kIsi K) (tCons (tVar 0) (tCons (tC (.ty "str")) tNil))) (tOp rEq (tVar 0) (tVar 1)))) tNext)
    (tSeq (tIfS (tTest (tOp rNe (tCB (kIsi K) (tCons (tVar 1) (tCons (tC (.ty "tuple")) tNil))) (tCB (kIsi K) (tCons (tVar 0) (tCons (tC (.ty "tuple")) tNil))))) (tRet (tC (.bl false))) tNext)
    (tSeq (tIfS (tTest (tOp rNe (tCB (kIsi K) (tCons (tVar 1) (tCons (tC (.ty "list")) tNil))) (tCB (kIsi K) (tCons (tVar 0) (tCons (tC (.ty "list")) tNil))))) (tRet (tC (.bl false))) tNext)
    (tSeq (tIfS (tTest (tOp rNe (tCB (kLen K) (tCons (tVar 0) tNil)) (tCB (kLen K) (tCons (tVar 1) tNil)))) (tRet (tC (.bl false))) tNext)
    (tRet (tCB (rAll K) (tCons (tLc (iRng1 (tCons (tCB (kLen K) (tCons (tVar 1) tNil)) tNil)) (gName 2) tYes (tDef (spU K C up) E0 (tCons (tOp (rIx K) (tVar 0) (tVar 2)) (tCons (tOp (rIx K) (tVar 1) (tVar 2)) tNil))) [2]) tNil))))))))))
end
def uLequal (up : UP) : US := (uSeq (uIfS (uB (uOp qIsNon (uVar 1) (uC .non))) (uRet (uOp qIsNon (uVar 0) (uC .non))) uNext)
    (uSeq (uIfS (uB (uIsi "bool" (uVar 1))) (uRet (uAndV (uIsi "bool" (uVar 0)) (uOp qEq (uVar 0) (uVar 1)))) uNext)
    (uSeq (uIfS (uB (uIsi "int" (uVar 1))) (uRet (uAndV (uIsi "int" (uVar 0)) (uAndV (uNotV (uIsi "bool" (uVar 0))) (uOp qEq (uVar 0) (uVar 1))))) uNext)
    (uSeq (uIfS (uB (uIsi "str" (uVar 1))) (uRet (uAndV (uIsi "str" (uVar 0)) (uOp qEq (uVar 0) (uVar 1)))) uNext)
    (uSeq (uIfS (uB (uOp qNe (uIsi "tuple" (uVar 1)) (uIsi "tuple" (uVar 0)))) (uRet (uC (.bl false))) uNext)
    (uSeq (uIfS (uB (uOp qNe (uIsi "list" (uVar 1)) (uIsi "list" (uVar 0)))) (uRet (uC (.bl false))) uNext)
    (uSeq (uIfS (uB (uOp qNe (uCB gLen (uCons (uVar 0) uNil)) (uCB gLen (uCons (uVar 1) uNil)))) (uRet (uC (.bl false))) uNext)
    (uRet (uCB gAll (uCons (uLc (uIRng1 (uCons (uCB gLen (uCons (uVar 1) uNil)) uNil)) (uName 2) uYes (uDef up (uCons (uOp qIx (uVar 0) (uVar 2)) (uCons (uOp qIx (uVar 1) (uVar 2)) uNil))) [2]) uNil))))))))))
theorem simLequal {K : PySem.W.Frag} {C : Addr} {up : UP} (B : Bs) (hK : B.K = K) (hC : B.C = C) : SimS B (tULequal K C up) (uLequal up) := by
  subst hK hC
  exact (sS_seq (sS_if (sT_test (SimE.w (sE_op s2_IsNon sW_var (SimE.w sE_non)))) (sS_ret (sE_op s2_IsNon sW_var (SimE.w sE_non))) sS_next)
    (sS_seq (sS_if (sT_B (SimE.w (sE_isi sW_var))) (sS_ret (sE_andV (SimE.w (sE_isi sW_var)) (sE_op s2_Eq sW_var sW_var))) sS_next)
    (sS_seq (sS_if (sT_B (SimE.w (sE_isi sW_var))) (sS_ret (sE_andV (SimE.w (sE_isi sW_var)) (sE_andV (SimE.w (sE_notV (SimE.w (sE_isi sW_var)))) (sE_op s2_Eq sW_var sW_var)))) sS_next)
    (sS_seq (sS_if (sT_B (SimE.w (sE_isi sW_var))) (sS_ret (sE_andV (SimE.w (sE_isi sW_var)) (sE_op s2_Eq sW_var sW_var))) sS_next)
    (sS_seq (sS_if (sT_test (SimE.w (sE_op s2_Ne (SimE.w (sE_isi sW_var)) (SimE.w (sE_isi sW_var))))) (sS_ret sE_bl) sS_next)
    (sS_seq (sS_if (sT_test (SimE.w (sE_op s2_Ne (SimE.w (sE_isi sW_var)) (SimE.w (sE_isi sW_var))))) (sS_ret sE_bl) sS_next)
    (sS_seq (sS_if (sT_test (SimE.w (sE_op s2_Ne (SimE.w (sE_cb sk_len (sA_cons sW_var sA_nil))) (SimE.w (sE_cb sk_len (sA_cons sW_var sA_nil)))))) (sS_ret sE_bl) sS_next)
    (sS_ret (sE_cb sk_all (sA_cons (SimE.w (SimN.e (sN_lc (sI_rng1 (sA_cons (SimE.w (sE_cb sk_len (sA_cons sW_var sA_nil))) sA_nil)) ktw_name sT_yes (sE_def (sP_cons (sE_op s2_ix sW_var sW_var) (sP_cons (sE_op s2_ix sW_var sW_var) sP_nil)))))) sA_nil))))))))))
end TkL


local macro_rules | `(tactic| walk_at "eq6") => do
  let nms (s : String) := (s.splitOn " ").toArray.map fun x => Lean.mkIdent x.toName
  let x1 := nms "TkL.e_isi TkL.is_int_bool TkL.is_int_int TkL.is_int_str TkL.is_int_tuple TkL.is_int_list TkL.is_bl_bool TkL.is_bl_int TkL.is_bl_str TkL.is_bl_tuple TkL.is_bl_list TkL.is_str_bool TkL.is_str_int TkL.is_str_str TkL.is_str_tuple TkL.is_str_list TkL.is_non_bool TkL.is_non_int TkL.is_non_str TkL.is_non_tuple TkL.is_non_list TkL.is_tup_bool TkL.is_tup_int TkL.is_tup_str TkL.is_tup_tuple TkL.is_tup_list TkL.is_lst_bool TkL.is_lst_int TkL.is_lst_str TkL.is_lst_tuple TkL.is_lst_list TkL.isNonD"
  let t1 ← `(tactic| simp only [$[$x1:ident],*])
  `(tactic| repeat (first | ($t1:tactic) | (with_reducible refine TkL.isn_i ?_) | walk_at "ew"))
namespace TkL
open PySem PySem.Spec PySem.Calls PyProof.Rows L2 Tk
theorem eq_tail {m : Nat} {P : D → Prop} {x y : D} {i j : List D} (hx : x = .lst i ∨ x = .tup i) (hy : y = .lst j ∨ y = .tup j) (hj : j.length ≤ 1000) (pi : ∀ d ∈ i, PlD m d) (pj : ∀ d ∈ j, PlD m d) (hf : i ≠ j → P (.bl false)) (ht : i = j → P (.bl true)) :
    if (!decide ((i.length : Int) = j.length)) = true then P (D.bl false)
    else
      (-2 ^ 62 ≤ (j.length : Int) ∧ (j.length : Int) < 2 ^ 62) ∧
        LC (uName 2) uYes (uDef (upEqual0 (m + 1)) (uCons (uOp qIx (uVar 0) (uVar 2)) (uCons (uOp qIx (uVar 1) (uVar 2)) uNil)))
          [2] (fun x _ => gAll [x] fun z => P z) (rngD 0 (j.length : Int).toNat) [Sl.val x, Sl.val y, Sl.no] := by
  by_cases hl : i.length = j.length
  · rw [if_neg (by rw [hl]; simp)]
    refine ⟨by omega, ?_⟩
    rw [Int.toNat_natCast]
    refine lc_inv (fun k acc => ∃ bs : List Bool, acc = bL bs ∧ bs.length = k ∧ (bs.all id = true ↔ i.take k = j.take k)) ⟨[], rfl, rfl, by simp⟩ ?_ ?_
    · rintro k d acc hd ⟨bs, rfl, hk, hb⟩
      obtain ⟨hk2, rfl⟩ := rngD_mem0 hd
      obtain ⟨u, hu⟩ : ∃ u, i[k]? = some u := ⟨_, List.getElem?_eq_getElem (by omega)⟩
      obtain ⟨w, hw⟩ : ∃ w, j[k]? = some w := ⟨_, List.getElem?_eq_getElem hk2⟩
      walk_at "ew"
      refine ix_i i hx hu ?_
      refine ix_i j hy hw ?_
      refine ⟨u, w, rfl, pi u (List.mem_of_getElem? hu), pj w (List.mem_of_getElem? hw), fun c hc => ?_⟩
      have e1 : i.take (k + 1) = i.take k ++ [u] := by rw [List.take_succ, hu]; rfl
      have e2 : j.take (k + 1) = j.take k ++ [w] := by rw [List.take_succ, hw]; rfl
      refine ⟨by unfold bL; rw [List.length_map]; omega, bs ++ [c], by unfold bL; rw [List.map_append]; rfl, by simp [hk], ?_⟩
      rw [e1, e2, List.all_append, Bool.and_eq_true, hb]
      constructor
      · rintro ⟨h1, h2⟩
        have : c = true := by simpa using h2
        rw [h1, hc.mp this]
      · intro h3
        have := List.append_inj h3 (by rw [List.length_take, List.length_take]; omega)
        refine ⟨this.1, ?_⟩
        have e : u = w := by simpa using this.2
        simp [hc.mpr e]
    · rintro acc ⟨bs, rfl, hk, hb⟩
      rw [rngD_length] at hk hb
      rw [List.take_of_length_le (by omega), List.take_of_length_le (by omega)] at hb
      refine all_i ?_
      cases h : bs.all id with
      | true => exact ht (hb.mp h)
      | false => exact hf fun z => by rw [hb.mpr z] at h; cases h
  · rw [if_pos (by rw [decide_eq_false (by omega)]; rfl)]
    exact hf fun z => hl (by rw [z])
theorem rdUequal (n : Nat) (ds : List D) (P : D → Prop) (h : upEqualN n ds P) : uLequal (upEqual0 n) { nx := fun _ => P .non, rt := P } (startU ["_law_actual", "_law_expected", "_law_k"] ds) := by
  obtain ⟨a, e, rfl, pa, pe, h⟩ := h
  show uLequal _ _ [.val a, .val e, .no]
  unfold uLequal
  have hf : a ≠ e → P (.bl false) := fun z => h false ⟨fun q => (by cases q), fun q => absurd q z⟩
  cases e with
  | int j =>
    cases a with
    | int i =>
      walk_at "eq6"
      exact h _ (by simp)
    | bl i =>
      walk_at "eq6"
      exact hf (by intro z; cases z)
    | str i =>
      walk_at "eq6"
      exact hf (by intro z; cases z)
    | non =>
      walk_at "eq6"
      exact hf (by intro z; cases z)
    | tup i =>
      walk_at "eq6"
      exact hf (by intro z; cases z)
    | lst i =>
      walk_at "eq6"
      exact hf (by intro z; cases z)
    | _ => cases n <;> exact pa.elim
  | bl j =>
    cases a with
    | int i =>
      walk_at "eq6"
      exact hf (by intro z; cases z)
    | bl i =>
      walk_at "eq6"
      exact h _ (by simp)
    | str i =>
      walk_at "eq6"
      exact hf (by intro z; cases z)
    | non =>
      walk_at "eq6"
      exact hf (by intro z; cases z)
    | tup i =>
      walk_at "eq6"
      exact hf (by intro z; cases z)
    | lst i =>
      walk_at "eq6"
      exact hf (by intro z; cases z)
    | _ => cases n <;> exact pa.elim
  | str j =>
    cases a with
    | int i =>
      walk_at "eq6"
      exact hf (by intro z; cases z)
    | bl i =>
      walk_at "eq6"
      exact hf (by intro z; cases z)
    | str i =>
      walk_at "eq6"
      exact h _ (by simp)
    | non =>
      walk_at "eq6"
      exact hf (by intro z; cases z)
    | tup i =>
      walk_at "eq6"
      exact hf (by intro z; cases z)
    | lst i =>
      walk_at "eq6"
      exact hf (by intro z; cases z)
    | _ => cases n <;> exact pa.elim
  | non =>
    cases a with
    | int i =>
      walk_at "eq6"
      exact hf (by intro z; cases z)
    | bl i =>
      walk_at "eq6"
      exact hf (by intro z; cases z)
    | str i =>
      walk_at "eq6"
      exact hf (by intro z; cases z)
    | non =>
      walk_at "eq6"
      exact h _ (by simp)
    | tup i =>
      walk_at "eq6"
      exact hf (by intro z; cases z)
    | lst i =>
      walk_at "eq6"
      exact hf (by intro z; cases z)
    | _ => cases n <;> exact pa.elim
  | tup j =>
    cases a with
    | int i =>
      walk_at "eq6"
      exact hf (by intro z; cases z)
    | bl i =>
      walk_at "eq6"
      exact hf (by intro z; cases z)
    | str i =>
      walk_at "eq6"
      exact hf (by intro z; cases z)
    | non =>
      walk_at "eq6"
      exact hf (by intro z; cases z)
    | tup i =>
      walk_at "eq6"
      cases n with
      | zero => exact pe.elim
      | succ m => exact eq_tail (.inr rfl) (.inr rfl) pe.1 pa.2 pe.2 (fun z => hf fun q => z (by cases q; rfl)) fun z => h true ⟨fun _ => by rw [z], fun _ => rfl⟩
    | lst i =>
      walk_at "eq6"
      exact hf (by intro z; cases z)
    | _ => cases n <;> exact pa.elim
  | lst j =>
    cases a with
    | int i =>
      walk_at "eq6"
      exact hf (by intro z; cases z)
    | bl i =>
      walk_at "eq6"
      exact hf (by intro z; cases z)
    | str i =>
      walk_at "eq6"
      exact hf (by intro z; cases z)
    | non =>
      walk_at "eq6"
      exact hf (by intro z; cases z)
    | tup i =>
      walk_at "eq6"
      exact hf (by intro z; cases z)
    | lst i =>
      walk_at "eq6"
      cases n with
      | zero => exact pe.elim
      | succ m => exact eq_tail (.inl rfl) (.inl rfl) pe.1 pa.2 pe.2 (fun z => hf fun q => z (by cases q; rfl)) fun z => h true ⟨fun _ => by rw [z], fun _ => rfl⟩
    | _ => cases n <;> exact pa.elim
  | _ => cases n <;> exact pe.elim
end TkL


namespace TkL
open PySem PySem.Spec PySem.Calls PyProof.Rows L2 Tk
def VB.rv (v : VB) : RV := ⟨v.e, v.b, v.l, v.o⟩
end TkL


namespace TkL
open PySem PySem.Spec PySem.Calls PyProof.Rows L2 Tk
section
variable {r : RV} {v : VB} {P : D → Prop} {t : Int}
theorem eqT_i {a e : D} (h : a = e) (pl : PlD 3 e) (p : P (.bl true)) : upEqual [a, e] P := ⟨a, e, rfl, h ▸ pl, pl, fun c hc => hc.mpr h ▸ p⟩
theorem PlD.iL {n : Nat} {l : List Int} (h : l.length ≤ 1000) : PlD (n + 1) (.tup (iL l)) := ⟨by rw [iL_len]; exact h, fun x hx => by
  obtain ⟨i, _, rfl⟩ := List.mem_map.mp hx
  cases n <;> trivial⟩
end
end TkL


namespace TkL
open PySem PySem.Spec PySem.Calls PyProof.Rows L2 Tk
section
variable {r : RV} {v : VB} {P : D → Prop} {t : Int}
theorem parse_i (rb : RB r) (he : r.offs ≠ [] → r.beg + r.offs.getD 0 0 ≤ 100000) (hf : r.offs = [] → r.early.getLastD 0 ≤ 100000) (hl : r.early.length + r.offs.length ≤ 10000) (h : P (.row r)) : upParse [.cls, .str (rowText r)] P := by
  obtain ⟨S, h1, h2⟩ := parse_text rb he hf
  have tl := text_len rb
  refine ⟨_, S, rfl, by omega, h1, fun q qb hq => ?_⟩
  rw [qb.ext rb fun t => (hq t).trans (h2 t)]; exact h
theorem PlU.parse (pl : PlU v r) (h : P (.row r)) : upParse [.cls, .str (rowText r)] P := by
  have el := pl.rb.el
  have ol := pl.rb.ol
  have bb := pl.bb
  have ll := pl.ll
  refine parse_i pl.rb (fun ho => ?_) (fun z => absurd z pl.ho) (by omega) h
  obtain ⟨o, l, eo⟩ : ∃ o l, r.offs = o :: l := by
    cases h : r.offs with
    | nil => exact absurd h ho
    | cons o l => exact ⟨o, l, rfl⟩
  have := (pl.rb.c.wf.ow o (by rw [eo]; simp)).2
  rw [eo]
  show r.beg + o ≤ _
  omega
end
section
variable {r : RV}
end
end TkL


namespace TkL
open Tk
def lapAt (fs ls : List Int) (n : Nat) : Int := if n < fs.length then fs.getD n 0 else ls.getD ((n - fs.length) % ls.length) 0
def psum (f : Nat → Int) : Nat → Int
  | 0 => 0
  | n + 1 => psum f n + f n
theorem psum_congr {f g : Nat → Int} : ∀ {n : Nat}, (∀ i, i < n → f i = g i) → psum f n = psum g n
  | 0, _ => rfl
  | n + 1, h => by
    show psum f n + f n = psum g n + g n
    rw [psum_congr fun i hi => h i (by omega), h n (by omega)]
theorem psum_add {f : Nat → Int} (m : Nat) : ∀ n : Nat, psum f (m + n) = psum f m + psum (fun i => f (m + i)) n
  | 0 => by show psum f m = psum f m + 0; omega
  | n + 1 => by
    show psum f (m + n) + f (m + n) = psum f m + (psum (fun i => f (m + i)) n + f (m + n))
    rw [psum_add m n]; omega
theorem psum_list {l : List Int} : ∀ {n : Nat}, n ≤ l.length → psum (fun i => l.getD i 0) n = (l.take n).sum
  | 0, _ => by simp [psum]
  | n + 1, h => by
    show psum (fun i => l.getD i 0) n + l.getD n 0 = _
    rw [psum_list (by omega), List.take_succ, List.sum_append, List.getD_eq_getElem?_getD, List.getElem?_eq_getElem (by omega)]
    simp
theorem tks_iff : ∀ {a : Int} {l : List Int} {x : Int}, x ∈ (tks a l).dropLast ↔ ∃ n, n < l.length ∧ x = a + (l.take n).sum
  | a, [], x => by simp [tks]
  | a, b :: l, x => by
    show x ∈ (a :: tks (a + b) l).dropLast ↔ _
    rw [List.dropLast_cons_of_ne_nil tks_ne, List.mem_cons, tks_iff]
    constructor
    · rintro (rfl | ⟨n, h, rfl⟩)
      · exact ⟨0, by simp, by simp⟩
      · exact ⟨n + 1, by simpa using h, by rw [List.take_succ_cons, List.sum_cons]; omega⟩
    · rintro ⟨n, h, rfl⟩
      cases n with
      | zero => exact .inl (by simp)
      | succ n => exact .inr ⟨n, by simpa using h, by rw [List.take_succ_cons, List.sum_cons]; omega⟩
theorem psum_cyc {ls : List Int} (q : Nat) {j : Nat} (hj : j ≤ ls.length) (hl : 0 < ls.length) : psum (fun i => ls.getD (i % ls.length) 0) (q * ls.length + j) = q * ls.sum + (ls.take j).sum := by
  have one : ∀ {j : Nat}, j ≤ ls.length → psum (fun i => ls.getD (i % ls.length) 0) j = (ls.take j).sum := fun {j} h => by
    rw [← psum_list h]
    refine psum_congr fun i hi => ?_
    rw [Nat.mod_eq_of_lt (by omega)]
  induction q with
  | zero => rw [Nat.zero_mul, Nat.zero_add, one hj]; simp
  | succ q ih =>
    have e : (q + 1) * ls.length + j = ls.length + (q * ls.length + j) := by rw [Nat.succ_mul]; omega
    rw [e, psum_add, one (Nat.le_refl _), List.take_length]
    have e2 : psum (fun i => ls.getD ((ls.length + i) % ls.length) 0) (q * ls.length + j) = psum (fun i => ls.getD (i % ls.length) 0) (q * ls.length + j) := psum_congr fun i _ => by rw [Nat.add_mod_left]
    rw [e2, ih]
    have : ((q + 1 : Nat) : Int) * ls.sum = q * ls.sum + ls.sum := by rw [Int.natCast_add, Int.add_mul]; simp
    omega
theorem psum_lap {fs ls : List Int} (q : Nat) {j : Nat} (hj : j ≤ ls.length) (hl : 0 < ls.length) : psum (lapAt fs ls) (fs.length + (q * ls.length + j)) = fs.sum + (q * ls.sum + (ls.take j).sum) := by
  rw [psum_add, ← psum_cyc q hj hl]
  have e1 : psum (lapAt fs ls) fs.length = fs.sum := by
    rw [psum_congr (g := fun i => fs.getD i 0) fun i hi => by unfold lapAt; rw [if_pos hi], psum_list (Nat.le_refl _), List.take_length]
  rw [e1]
  congr 1
  refine psum_congr fun i _ => ?_
  unfold lapAt
  rw [if_neg (by omega), Nat.add_sub_cancel_left]
theorem plan_iff {s : Int} {fs ls : List Int} (hf : ∀ x ∈ fs, 1 ≤ x) (hl : ∀ x ∈ ls, 1 ≤ x) (hn : ls ≠ []) (t : Int) : planHas s fs ls t = true ↔ ∃ n, t = s + psum (lapAt fs ls) n := by
  have lp := List.length_pos_iff.mpr hn
  have tf := (tks_front (a := s) hf).2
  have tl := (tks_front (a := 0) hl).2
  have L1 : 1 ≤ ls.sum := by
    have := (tl 0 (tks_first hn)).2
    omega
  unfold planHas
  rcases Int.lt_or_le t (s + fs.sum) with c | c
  · rw [qhas_lo c, decide_eq_true_iff, tks_iff]
    constructor
    · rintro ⟨n, h, rfl⟩
      refine ⟨n, ?_⟩
      rw [psum_congr (g := fun i => fs.getD i 0) fun i hi => by unfold lapAt; rw [if_pos (by omega)], psum_list (by omega)]
    · rintro ⟨n, e⟩
      rcases Nat.lt_or_ge n fs.length with h | h
      · refine ⟨n, h, ?_⟩
        rw [e, psum_congr (g := fun i => fs.getD i 0) fun i hi => by unfold lapAt; rw [if_pos (by omega)], psum_list (by omega)]
      · exfalso
        have d := Nat.div_add_mod (n - fs.length) ls.length
        have lt := Nat.mod_lt (n - fs.length) lp
        have := psum_lap (fs := fs) (ls := ls) ((n - fs.length) / ls.length) (j := (n - fs.length) % ls.length) (by omega) lp
        have e2 : fs.length + ((n - fs.length) / ls.length * ls.length + (n - fs.length) % ls.length) = n := by rw [Nat.mul_comm ((n - fs.length) / ls.length) ls.length]; omega
        rw [e2] at this
        have m := tl _ (tks_iff.mpr ⟨_, lt, rfl⟩)
        have nn : 0 ≤ (((n - fs.length) / ls.length : Nat) : Int) * ls.sum := Int.mul_nonneg (Int.natCast_nonneg _) (by omega)
        omega
  · rw [qhas_hi c, decide_eq_true_iff, tks_iff]
    constructor
    · rintro ⟨j, h, e⟩
      rw [Int.zero_add] at e
      have dm := Int.mul_ediv_add_emod (t - (s + fs.sum)) ls.sum
      have q0 : 0 ≤ (t - (s + fs.sum)) / ls.sum := Int.ediv_nonneg (by omega) (by omega)
      refine ⟨fs.length + (((t - (s + fs.sum)) / ls.sum).toNat * ls.length + j), ?_⟩
      rw [psum_lap _ (by omega) lp, Int.toNat_of_nonneg q0, ← e]
      rw [Int.mul_comm] at dm
      omega
    · rintro ⟨n, e⟩
      rcases Nat.lt_or_ge n fs.length with h | h
      · exfalso
        rw [psum_congr (g := fun i => fs.getD i 0) fun i hi => by unfold lapAt; rw [if_pos (by omega)], psum_list (by omega)] at e
        have := (tf _ (tks_iff.mpr ⟨n, h, rfl⟩)).2
        omega
      · have d := Nat.div_add_mod (n - fs.length) ls.length
        have lt := Nat.mod_lt (n - fs.length) lp
        have := psum_lap (fs := fs) (ls := ls) ((n - fs.length) / ls.length) (j := (n - fs.length) % ls.length) (by omega) lp
        have e2 : fs.length + ((n - fs.length) / ls.length * ls.length + (n - fs.length) % ls.length) = n := by rw [Nat.mul_comm ((n - fs.length) / ls.length) ls.length]; omega
        rw [e2] at this
        refine ⟨_, lt, ?_⟩
        have m := tl _ (tks_iff.mpr ⟨_, lt, rfl⟩)
        have e3 : t - (s + fs.sum) = (ls.take ((n - fs.length) % ls.length)).sum + (((n - fs.length) / ls.length : Nat) : Int) * ls.sum := by omega
        rw [e3, Int.add_mul_emod_self_right, Int.emod_eq_of_lt (by omega) (by omega)]
        omega
theorem plan_same {s : Int} {fs ls gs ms : List Int} (hf : ∀ x ∈ fs, 1 ≤ x) (hl : ∀ x ∈ ls, 1 ≤ x) (hn : ls ≠ []) (hg : ∀ x ∈ gs, 1 ≤ x) (hm : ∀ x ∈ ms, 1 ≤ x) (hn2 : ms ≠ []) (h : ∀ n, lapAt fs ls n = lapAt gs ms n) (t : Int) : planHas s fs ls t = planHas s gs ms t := by
  rw [Bool.eq_iff_iff, plan_iff hf hl hn, plan_iff hg hm hn2]
  have e : ∀ n, psum (lapAt fs ls) n = psum (lapAt gs ms) n := fun n => psum_congr fun i _ => h i
  simp only [e]
end TkL


namespace TkL
open PySem PySem.Spec PySem.Calls PyProof.Rows L2 Tk
section
variable {fs ls : List Int}
end
section
variable {m s : Int} {fs ls gs ms : List Int} {P : D → Prop} {r : RV}
end
theorem fin_row {T : List Int} (hn : T ≠ []) (hs : T.Pairwise (· < ·)) (h0 : ∀ x ∈ T, 0 ≤ x) (hb : T.getLastD 0 < 200000) : RB ⟨T, T.getLastD 0 + 1, 1, []⟩ ∧ ∀ t, RV.has ⟨T, T.getLastD 0 + 1, 1, []⟩ t = decide (t ∈ T) := by
  have el : T.getLastD 0 = T.getLast hn := by
    cases T with
    | nil => exact absurd rfl hn
    | cons a l => rw [List.getLastD_cons]; exact (List.getLast_eq_getLastD ..).symm
  have mx : ∀ x ∈ T, x ≤ T.getLastD 0 := fun x hx => by
    rw [el]
    have sp := List.dropLast_concat_getLast hn
    rw [← sp] at hs hx
    rcases List.mem_append.mp hx with q | q
    · have := (List.pairwise_append.mp hs).2.2 x q (T.getLast hn) (by simp)
      omega
    · have : x = T.getLast hn := by simpa using q
      omega
  have fc := finite_canon (b := T.getLastD 0 + 1) hs h0 (.inr ⟨T.getLastD 0, by rw [el]; exact List.getLast_mem hn, rfl, mx⟩)
  exact ⟨⟨fc.1, by show T.getLastD 0 + 1 ≤ 200000; omega, by show (1 : Int) ≤ 20000; decide⟩, fc.2⟩
theorem fin_rowText {T : List Int} {b : Int} (hn : T ≠ []) : rowText ⟨T, b, 1, []⟩ = Txt.join " " ((T.getD 0 0 :: diffs T).map numS) := by
  have lp := List.length_pos_iff.mpr hn
  rw [fin_text]
  unfold rowText RV.flaps RV.laps
  simp only [List.length_nil, Nat.add_zero, List.take_nil, List.map_nil, List.append_nil]
  rw [if_neg (by omega), if_pos lp, if_neg (by omega)]
  exact Str.append_empty _
theorem asc_get {T : List Int} (hs : T.Pairwise (· < ·)) {k : Nat} (h : k + 1 < T.length) : T.getD k 0 < T.getD (k + 1) 0 := by
  rw [List.getD_eq_getElem?_getD, List.getD_eq_getElem?_getD, List.getElem?_eq_getElem h, List.getElem?_eq_getElem (by omega)]
  exact List.pairwise_iff_getElem.mp hs k (k + 1) (by omega) h (by omega)

def finR (T : List Int) : RV := ⟨T, T.getLastD 0 + 1, 1, []⟩
structure FinT (T : List Int) : Prop where
  ne : T ≠ []
  s : T.Pairwise (· < ·)
  b : ∀ x ∈ T, 0 ≤ x ∧ x < 100000
  l : T.length ≤ 1000
section
variable {T : List Int} {P : D → Prop}
theorem FinT.last (h : FinT T) : 0 ≤ T.getLastD 0 ∧ T.getLastD 0 < 100000 := by
  have hn := h.ne
  have el : T.getLastD 0 ∈ T := by
    cases T with
    | nil => exact absurd rfl hn
    | cons a l =>
      rw [List.getLastD_cons, ← List.getLast_eq_getLastD (a := a) (l := l) (by simp)]
      exact List.getLast_mem _
  exact h.b _ el
theorem FinT.rb (h : FinT T) : RB (finR T) := (fin_row h.ne h.s (fun x hx => (h.b x hx).1) (by have := h.last; omega)).1
theorem FinT.has (h : FinT T) (t : Int) : (finR T).has t = decide (t ∈ T) := (fin_row h.ne h.s (fun x hx => (h.b x hx).1) (by have := h.last; omega)).2 t
theorem FinT.words (h : FinT T) : ∀ p ∈ ((T.getD 0 0 :: diffs T).map numS), p.length ≤ 6 := by
  intro p hp
  obtain ⟨i, hi, rfl⟩ := List.mem_map.mp hp
  have lp := List.length_pos_iff.mpr h.ne
  have ib : 0 ≤ i ∧ i < 1000000 := by
    rcases List.mem_cons.mp hi with rfl | hi
    · have := h.b _ (Tk.getD_mem lp); omega
    · rw [diffs_rng] at hi
      obtain ⟨k, hk, rfl⟩ := List.mem_map.mp hi
      have hk := List.mem_range.mp hk
      have a := h.b _ (Tk.getD_mem (l := T) (i := k) (by omega))
      have b := h.b _ (Tk.getD_mem (l := T) (i := k + 1) (by omega))
      have c := asc_get h.s (k := k) (by omega)
      omega
  exact (numS_len ib.1 ib.2).2
theorem FinT.join (h : FinT T) (p : P (.str (rowText (finR T)))) : gJoin " " [.lst (strL ((T.getD 0 0 :: diffs T).map numS))] P := by
  have wl := h.words
  have dl : (diffs T).length ≤ 1000 := by rw [diffs_len]; have := h.l; omega
  refine gJoin_s (wsum_ok wl (by rw [List.length_map, List.length_cons]; omega)) ?_
  have e : rowText (finR T) = Txt.join " " ((T.getD 0 0 :: diffs T).map numS) := fin_rowText h.ne
  rw [← e]; exact p
theorem FinT.parse (h : FinT T) (p : P (.row (finR T))) : upParse [.cls, .str (rowText (finR T))] P :=
  parse_i h.rb (fun z => absurd rfl z) (fun _ => by have := h.last; show T.getLastD 0 ≤ _; omega) (by have := h.l; show T.length + 0 ≤ _; omega) p
theorem FinT.step (h : FinT T) {k : Int} (h0 : 0 ≤ k) (h1 : k + 1 < T.length) (p : P (.str (numS (T.getD (k.toNat + 1) 0 - T.getD k.toNat 0)))) : gStr [.int (T.getD (k.toNat + 1) 0 - T.getD k.toNat 0)] P := by
  have a := h.b _ (Tk.getD_mem (l := T) (i := k.toNat) (by omega))
  have b := h.b _ (Tk.getD_mem (l := T) (i := k.toNat + 1) (by omega))
  have c := asc_get h.s (k := k.toNat) (by omega)
  exact gStr_n (by omega) (by omega) p
theorem FinT.first (h : FinT T) (p : P (.str (numS (T.getD 0 0)))) : gStr [.int (T.getD 0 0)] P := by
  have a := h.b _ (Tk.getD_mem (l := T) (i := 0) (List.length_pos_iff.mpr h.ne))
  exact gStr_n a.1 (by omega) p
end
end TkL


namespace Tk
section
variable {l : List Int} {s n x : Int}
end
section
variable {r : RV} (w : WF r.early r.beg r.len r.offs)
end
end Tk


namespace TkL
open Tk L2
section
variable {a q : RV}
end
section
variable {r s : RV}
theorem RD.own (a : RB r) : RD r.len r.beg r := ⟨a, ⟨1, by omega⟩, Int.le_refl _⟩
end
end TkL



namespace TkL
open PySem PySem.Spec PySem.Calls PyProof.Rows L2 Tk
section
variable (K : PySem.W.Frag) (C : Addr) (CJ : Addr) (CR : Addr) (T0 : Addr)
end
end TkL


local macro_rules | `(tactic| walk_at "ewf") => do
  let nms (s : String) := (s.splitOn " ").toArray.map fun x => Lean.mkIdent x.toName
  let x1 := nms "TkL.e_fB TkL.e_fL TkL.e_fE TkL.e_fO TkL.e_never TkL.e_enum TkL.e_rng3 TkL.e_ext"
  let t1 ← `(tactic| simp only [$[$x1:ident],*])
  `(tactic| repeat (first | ($t1:tactic) | walk_at "ew"))
namespace TkL
open PySem PySem.Spec PySem.Calls PyProof.Rows L2 Tk
end TkL


namespace TkL
open PySem PySem.Spec PySem.Calls PyProof.Rows L2 Tk
section
variable {g : UG} {ct : UT} {el : UE} {vs : List Nat} {ρ1 : Env} {P : D → Env → Prop}
def LCs (g : UG) (ct : UT) (el : UE) (vs : List Nat) (P : D → Env → Prop) (ρ1 : Env) : List D → List D → Prop
  | [], acc => P (.lst acc) ρ1
  | x :: xs, acc => LCT g ct el vs ρ1 x acc fun acc' => LCs g ct el vs P ρ1 xs acc'
theorem lcs_nil {acc : List D} : LCs g ct el vs P ρ1 [] acc = P (.lst acc) ρ1 := rfl
theorem lcs_cons {acc xs : List D} {x : D} : LCs g ct el vs P ρ1 (x :: xs) acc = LCT g ct el vs ρ1 x acc fun acc' => LCs g ct el vs P ρ1 xs acc' := rfl
end
section
variable {g : UG} {b : US} {P : UEnds} {ρ1 : Env}
def FORs (g : UG) (b : US) (P : UEnds) : List D → Env → Prop
  | [], ρ => P.nx ρ
  | x :: xs, ρ => g x ρ fun ρ2 => b { P with nx := FORs g b P xs, ct := FORs g b P xs, bk := P.nx } ρ2
theorem fors_nil {ρ : Env} : FORs g b P [] ρ = P.nx ρ := rfl
theorem fors_cons {ρ : Env} {x : D} {xs : List D} : FORs g b P (x :: xs) ρ = g x ρ fun ρ2 => b { P with nx := FORs g b P xs, ct := FORs g b P xs, bk := P.nx } ρ2 := rfl
end
section
variable {N M k : Int} {r s : RV} {P : D → Prop}
end
theorem parse_k {z : Str} {ns : List Int} {b : Nat} {P : D → Prop} (h1 : z.length ≤ 100000) (h2 : z ≠ "never") (h3 : runP 0 (Txt.split z " ") ([], none) = some (ns, some b)) (h4 : b ≠ ns.length) (h : ∀ q, RB q → (∀ t, q.has t = planHas (ns.getD 0 0) ((ns.drop 1).take (b - 1)) (ns.drop b) t) → P (.row q)) : upParse [.cls, .str z] P :=
  ⟨z, _, rfl, h1, by unfold parseSet; rw [if_neg h2, h3]; exact if_neg h4, fun q qb hq => h q qb hq⟩
theorem RD.up {N M N' M' : Int} {r : RV} (h : RD N M r) (hN : N ∣ N') (hM : M ≤ M') : RD N' M' r := ⟨h.rb, Int.dvd_trans h.dv hN, Int.le_trans h.bm hM⟩
end TkL


local macro_rules | `(tactic| walk_at "ewo") => do
  let nms (s : String) := (s.splitOn " ").toArray.map fun x => Lean.mkIdent x.toName
  let x1 := nms "TkL.e_fB TkL.e_fL TkL.e_fE TkL.e_fO TkL.e_never TkL.e_enum TkL.e_rng3 TkL.e_ext TkL.e_augI TkL.e_bor TkL.e_retO TkL.e_retNO TkL.e_par_ovv TkL.e_mk TkL.e_setI TkL.lcs_nil TkL.lcs_cons TkL.fors_nil TkL.fors_cons List.nil_append List.cons_append Nat.reduceLT"
  let t1 ← `(tactic| simp only [$[$x1:ident],*])
  `(tactic| (first | ($t1:tactic) | walk_at "ew"))
local macro_rules | `(tactic| walk_at "ewu") => do
  let nms (s : String) := (s.splitOn " ").toArray.map fun x => Lean.mkIdent x.toName
  let x1 := nms "TkL.e_fB TkL.e_fL TkL.e_fE TkL.e_fO TkL.e_never TkL.e_enum TkL.e_rng3 TkL.e_ext TkL.e_augI TkL.e_bor TkL.e_retO TkL.e_retNO TkL.e_par_ovv TkL.e_mk TkL.e_setI TkL.lcs_nil TkL.lcs_cons TkL.fors_nil TkL.fors_cons List.nil_append List.cons_append Nat.reduceLT"
  let t1 ← `(tactic| simp only [$[$x1:ident],*])
  `(tactic| repeat (first | ($t1:tactic) | walk_at "ew"))
local macro_rules | `(tactic| walk_at "ews") => do
  let nms (s : String) := (s.splitOn " ").toArray.map fun x => Lean.mkIdent x.toName
  let x1 := nms "TkL.e_fB TkL.e_fL TkL.e_fE TkL.e_fO TkL.e_never TkL.e_enum TkL.e_rng3 TkL.e_ext TkL.e_augI TkL.e_bor TkL.e_retO TkL.e_retNO TkL.e_par_ovv TkL.e_mk TkL.e_setI TkL.lcs_nil TkL.lcs_cons TkL.fors_nil TkL.fors_cons List.nil_append List.cons_append Nat.reduceLT"
  let t1 ← `(tactic| simp only [$[$x1:ident],*])
  `(tactic| repeat (first | (with_reducible refine TkL.add_e (by assumption) (by assumption) (by assumption) (by omega) fun q dq hq => ?_) | (with_reducible refine TkL.and_e (by assumption) (by assumption) (by assumption) (by omega) fun q dq hq => ?_) | (with_reducible refine TkL.sub_e (by assumption) (by assumption) (by assumption) (by omega) fun q dq hq => ?_) | (with_reducible refine TkL.shift_e (by assumption) (by assumption) (by omega) (by omega) (by omega) fun q dq hq => ?_) | (with_reducible refine TkL.eq_e (by assumption) (by assumption) (by intro t; simp only [*] <;> grind) ?_) | ($t1:tactic) | walk_at "ew"))
namespace TkL
open PySem PySem.Spec PySem.Calls PyProof.Rows L2 Tk
end TkL


namespace TkL
open PySem PySem.Spec PySem.Calls PyProof.Rows L2 Tk
section
variable {r q : RV} {v u : VB}
theorem PlU.inj (a : PlU v r) (b : PlU u q) (h : rowText r = rowText q) : r = q := by
  have key : ∀ {v : VB} {r : RV}, PlU v r → ∃ S, parseSet (rowText r) = some S ∧ ∀ t, S t = r.has t := fun {v r} pl => by
    have ll := pl.ll
    have bb := pl.bb
    obtain ⟨S, h1, h2⟩ := parse_text pl.rb (fun ho => by
      obtain ⟨o, l, eo⟩ : ∃ o l, r.offs = o :: l := by
        cases h : r.offs with
        | nil => exact absurd h ho
        | cons o l => exact ⟨o, l, rfl⟩
      have := (pl.rb.c.wf.ow o (by rw [eo]; simp)).2
      rw [eo]
      show r.beg + o ≤ _
      omega) (fun z => absurd z pl.ho)
    exact ⟨S, h1, h2⟩
  obtain ⟨S, s1, s2⟩ := key a
  obtain ⟨T, t1, t2⟩ := key b
  rw [h, t1] at s1
  cases s1
  exact a.rb.ext b.rb fun t => (s2 t).symm.trans (t2 t)
end
end TkL


namespace TkL
open PySem PySem.Spec PySem.Calls PyProof.Rows L2 Tk
section
variable {v : VB} {r : RV} {k n : Int}
end
section
variable {f : Int → Bool} {B N : Int}
end
end TkL


namespace TkL
open PySem PySem.Spec PySem.Calls PyProof.Rows L2 Tk
end TkL



namespace TkL
open PySem PySem.Spec PySem.Calls PyProof.Rows L2 Tk
section
variable (K : PySem.W.Frag) (C : Addr) (CJ : Addr) (CR : Addr) (T0 : Addr)
end
end TkL


namespace TkL
open PySem PySem.Spec PySem.Calls PyProof.Rows L2 Tk
end TkL


namespace TkL
open PySem PySem.Spec PySem.Calls PyProof.Rows L2 Tk
end TkL



namespace TkL
open PySem PySem.Spec PySem.Calls PyProof.Rows L2 Tk
section
variable (K : PySem.W.Frag) (C : Addr) (CJ : Addr) (CR : Addr) (T0 : Addr)
end
end TkL


namespace TkL
open PySem PySem.Spec PySem.Calls PyProof.Rows L2 Tk
end TkL


namespace Tk
structure GC (a b g : Int) : Prop where
  a1 : 1 ≤ a
  b1 : 1 ≤ b
  g1 : 1 ≤ g
  da : g ∣ a
  db : g ∣ b
  bz : ∃ x y : Int, g = a * x + b * y
section
variable {a b g : Int} (G : GC a b g)
include G
theorem GC.w1 : 1 ≤ b / g := by
  have := Int.ediv_pos_of_pos_of_dvd (show 0 < b by have := G.b1; omega) (show 0 ≤ g by have := G.g1; omega) G.db
  omega
theorem GC.wg : b / g * g = b := Int.ediv_mul_cancel G.db
theorem GC.hit {s c : Int} (h : g ∣ c - s) : ∃ j, 0 ≤ j ∧ j < b / g ∧ b ∣ s + j * a - c := by
  obtain ⟨x, y, e⟩ := G.bz
  obtain ⟨k, hk⟩ := h
  have w := G.w1
  obtain ⟨a', ha'⟩ := G.da
  refine ⟨(x * k) % (b / g), Int.emod_nonneg _ (by omega), Int.emod_lt_of_pos _ (by omega), ?_⟩
  have q : (b / g) * (x * k / (b / g)) + (x * k) % (b / g) = x * k := Int.mul_ediv_add_emod _ _
  have e1 : (x * k) % (b / g) = x * k - (b / g) * (x * k / (b / g)) := by omega
  rw [e1]
  have e2 : c - s = a * x * k + b * y * k := by
    rw [hk]
    have : g * k = (a * x + b * y) * k := by rw [← e]
    rw [this, Int.add_mul]
  have e3 : (b / g) * (x * k / (b / g)) * a = b * (a' * (x * k / (b / g))) := by
    have : a = g * a' := ha'
    calc (b / g) * (x * k / (b / g)) * a = (b / g) * (x * k / (b / g)) * (g * a') := by rw [← this]
      _ = (b / g * g) * (a' * (x * k / (b / g))) := by
        simp only [Int.mul_assoc, Int.mul_comm, Int.mul_left_comm]
      _ = b * (a' * (x * k / (b / g))) := by rw [G.wg]
  refine ⟨-(y * k) - a' * (x * k / (b / g)), ?_⟩
  rw [Int.sub_mul, e3, Int.mul_sub, Int.mul_neg]
  have e4 : x * k * a = a * x * k := by simp only [Int.mul_assoc, Int.mul_comm, Int.mul_left_comm]
  have e5 : b * (y * k) = b * y * k := by rw [Int.mul_assoc]
  rw [e4, e5]
  omega
theorem GC.inj {i j : Int} (hi : 0 ≤ i) (hi' : i < b / g) (hj : 0 ≤ j) (hj' : j < b / g) (h : b ∣ (i - j) * a) : i = j := by
  obtain ⟨x, y, e⟩ := G.bz
  have w := G.w1
  have g1 := G.g1
  obtain ⟨a', ha'⟩ := G.da
  obtain ⟨k, hk⟩ := h
  have hd : b / g ∣ i - j := by
    refine ⟨k * x + (i - j) * y, ?_⟩
    have h1 : (i - j) * g = (b / g * (k * x + (i - j) * y)) * g := by
      calc (i - j) * g = (i - j) * (a * x + b * y) := by rw [← e]
        _ = (i - j) * a * x + (i - j) * (b * y) := by rw [Int.mul_add, Int.mul_assoc]
        _ = b * k * x + (i - j) * (b * y) := by rw [hk]
        _ = b * (k * x + (i - j) * y) := by
          rw [Int.mul_add]; simp only [Int.mul_assoc, Int.mul_comm, Int.mul_left_comm]
        _ = (b / g * g) * (k * x + (i - j) * y) := by rw [G.wg]
        _ = (b / g * (k * x + (i - j) * y)) * g := by simp only [Int.mul_assoc, Int.mul_comm, Int.mul_left_comm]
    exact Int.eq_of_mul_eq_mul_right (by omega) h1
  obtain ⟨m, hm⟩ := hd
  have : m = 0 := by
    rcases Int.lt_trichotomy m 0 with z | z | z
    · have : b / g * m ≤ b / g * (-1) := Int.mul_le_mul_of_nonneg_left (by omega) (by omega)
      omega
    · exact z
    · have : b / g * 1 ≤ b / g * m := Int.mul_le_mul_of_nonneg_left (by omega) (by omega)
      omega
  subst this
  rw [Int.mul_zero] at hm
  omega
end
end Tk


namespace TkL
open Tk L2
section
variable {s : RV} (sb : RB s) {t a g : Int} (G : GC a s.len g)
include sb G
end
theorem cutV {A : Prop} {S R : VB → RV → Prop} (h : (∀ v r, S v r → R v r) → A) (r : ∀ v q, S v q → R v q) : A := h r
end TkL


namespace TkL
open PySem PySem.Spec PySem.Calls PyProof.Rows L2 Tk
end TkL


namespace TkL
open PySem PySem.Spec PySem.Calls PyProof.Rows L2 Tk
end TkL



namespace TkL
open PySem PySem.Spec PySem.Calls PyProof.Rows L2 Tk
section
variable (K : PySem.W.Frag) (C : Addr) (CJ : Addr) (CR : Addr) (T0 : Addr)
end
end TkL


namespace TkL
open PySem PySem.Spec PySem.Calls PyProof.Rows L2 Tk
end TkL


namespace TkL
open PySem PySem.Spec PySem.Calls PyProof.Rows L2 Tk
end TkL


namespace TkL
open PySem PySem.Spec PyProof.Rows GenW L2
section
variable {M : Model} {A : Around} {R : GenEnd} {Y : Protocol} {n : Nat} {s₀ : Shared} {c : Code} {fs : List Frame} {s : Shared} {env : PySem.Env}
  {K : Flow → Sem PySem.Fin} {H : Value → Sem PySem.Fin} {gd : Bool → Bool} {lv : List Value → List Value}
end
section
variable {prog : Program} {w : World} {A : Around} {R : GenEnd} {Y : Protocol} {n : Nat} {s₀ : Shared} {fs : List Frame} {s : Shared} {env : PySem.Env}
end
section
variable {X : Cx}
end
end TkL


namespace TkL
open PySem PySem.Spec PySem.Calls PyProof.Rows L2 Tk
structure UGE where
  nx : List D → Env → Prop
  bk : List D → Env → Prop := fun _ _ => False
  ct : List D → Env → Prop := fun _ _ => False
abbrev UGn := UGE → List D → Env → Prop
structure KnG (B : Bs) (F : Hp) (D1 : GEnds) (P : UGE) : Prop where
  nx : ∀ H' F' σ' ρ' vs ys, Ex F F' → RelF B H' F' σ' ρ' → Reps B.K B.C B.dO F' vs ys → P.nx ys ρ' → D1.nx vs σ' H'
  bk : ∀ H' F' σ' ρ' vs ys, Ex F F' → RelF B H' F' σ' ρ' → Reps B.K B.C B.dO F' vs ys → P.bk ys ρ' → D1.bk vs σ' H'
  ct : ∀ H' F' σ' ρ' vs ys, Ex F F' → RelF B H' F' σ' ρ' → Reps B.K B.C B.dO F' vs ys → P.ct ys ρ' → D1.ct vs σ' H'
theorem KnG.up {B : Bs} {F F1 : Hp} {D1 : GEnds} {P : UGE} (k : KnG B F D1 P) (e : Ex F F1) : KnG B F1 D1 P :=
  ⟨fun H' F' σ' ρ' vs ys e' => k.nx H' F' σ' ρ' vs ys (e.trans e'), fun H' F' σ' ρ' vs ys e' => k.bk H' F' σ' ρ' vs ys (e.trans e'), fun H' F' σ' ρ' vs ys e' => k.ct H' F' σ' ρ' vs ys (e.trans e')⟩
def uG0 : UGn := fun P ys ρ => P.nx ys ρ
def uGThen (a b : UGn) : UGn := fun P ys ρ => a { P with nx := fun ys' ρ' => b P ys' ρ' } ys ρ
def uGPl (u : US) : UGn := fun P ys ρ => u { nx := P.nx ys, rt := fun _ => False, bk := P.bk ys, ct := P.ct ys } ρ
def uGYield (a : UE) : UGn := fun P ys ρ => ys.length < 1000000 ∧ a ρ fun d ρ1 => P.nx (ys ++ [d]) ρ1
def uGFor (it : UI) (g : UG) (b : UGn) : UGn := fun P ys0 ρ => it ρ fun xs ρ1 => ∃ I : Nat → List D → Env → Prop, I 0 ys0 ρ1 ∧
  (∀ i x ys ρ, xs[i]? = some x → I i ys ρ → g x ρ fun ρ2 => b { nx := I (i + 1), ct := I (i + 1), bk := P.nx } ys ρ2) ∧ ∀ ys ρ, I xs.length ys ρ → P.nx ys ρ
section
variable {B : Bs} {ts : TS} {us : US} {te : TE} {ue : UE} {t t' : TGn} {u u' : UGn}
end
section
variable {B : Bs} {A : TA} {U : UA}
end
section
variable {X : Cx} {k : Nat} {x nm : Str} {ps : List Str} {sp : SpG} {e : Expr} {es : List Expr} {t : TA} {p p2 pos pos2 : Pos}
end
section
variable {P : UGE} {ys : List D} {ρ : Env} {a b : UGn} {u : US} {e : UE} {it : UI} {g : UG}
theorem e_g0 : uG0 P ys ρ = P.nx ys ρ := rfl
theorem e_gThen : uGThen a b P ys ρ = a { P with nx := fun ys' ρ' => b P ys' ρ' } ys ρ := rfl
theorem e_gPl : uGPl u P ys ρ = u { nx := P.nx ys, rt := fun _ => False, bk := P.bk ys, ct := P.ct ys } ρ := rfl
theorem e_gYield : uGYield e P ys ρ = (ys.length < 1000000 ∧ e ρ fun d ρ1 => P.nx (ys ++ [d]) ρ1) := rfl
def GFORU (g : UG) (b : UGn) (P : UGE) (ys0 : List D) (xs : List D) (ρ1 : Env) : Prop := ∃ I : Nat → List D → Env → Prop, I 0 ys0 ρ1 ∧
  (∀ i x ys ρ, xs[i]? = some x → I i ys ρ → g x ρ fun ρ2 => b { nx := I (i + 1), ct := I (i + 1), bk := P.nx } ys ρ2) ∧ ∀ ys ρ, I xs.length ys ρ → P.nx ys ρ
theorem e_gFor : uGFor it g b P ys ρ = it ρ fun xs ρ1 => GFORU g b P ys xs ρ1 := rfl
end
end TkL


local macro_rules | `(tactic| walk_at "ewg") => do
  let nms (s : String) := (s.splitOn " ").toArray.map fun x => Lean.mkIdent x.toName
  let x1 := nms "TkL.e_fB TkL.e_fL TkL.e_fE TkL.e_fO TkL.e_never TkL.e_enum TkL.e_rng3 TkL.e_ext TkL.e_augI TkL.e_bor TkL.e_retO TkL.e_retNO TkL.e_par_ovv TkL.e_mk TkL.e_setI TkL.e_g0 TkL.e_gThen TkL.e_gPl TkL.e_gYield TkL.e_gFor TkL.lcs_nil TkL.lcs_cons TkL.fors_nil TkL.fors_cons List.nil_append List.cons_append Nat.reduceLT"
  let t1 ← `(tactic| simp only [$[$x1:ident],*])
  `(tactic| repeat (first | ($t1:tactic) | walk_at "ew"))
namespace TkL
open PySem PySem.Spec PySem.Calls PyProof.Rows L2 Tk
def AndR (r s q : RV) : Prop := RB q ∧ ∀ t, q.has t = (r.has t && s.has t)
end TkL



namespace TkL
open PySem PySem.Spec PySem.Calls PyProof.Rows L2 Tk
section
variable (K : PySem.W.Frag) (C : Addr) (CJ : Addr) (CR : Addr) (T0 : Addr)
end
end TkL


namespace TkL
open PySem PySem.Spec PySem.Calls PyProof.Rows L2 Tk
end TkL


namespace TkL
open PySem PySem.Spec PySem.Calls PyProof.Rows L2 Tk
end TkL


namespace TkL
open PySem PySem.Spec PySem.Calls PyProof.Rows L2 Tk
end TkL


namespace TkL
open PySem PySem.Spec PySem.Calls PyProof.Rows L2 Tk
end TkL


namespace TkL
open PySem PySem.Spec PySem.Calls PyProof.Rows L2 Tk
def uIdx (a : UE) (U : UA) : UE := fun ρ P => a ρ fun x ρ1 => match x with
  | .lst l => U ρ1 fun xs ρ2 => ∃ (ns : List Int) (n : Int) (k : Nat), l = iL ns ∧ xs = [.int n] ∧ ns[k]? = some n ∧ (∀ (j : Nat) (z : Int), j < k → ns[j]? = some z → z ≠ n) ∧ P (.int (k : Nat)) ρ2
  | _ => False
section
variable {B : Bs} {ta : TE} {ua : UE} {A : TA} {U : UA}
end
variable {a : UE} {U : UA} {ρ : Env} {Q : D → Env → Prop}
theorem e_idx : uIdx a U ρ Q = a ρ fun x ρ1 => match x with
  | .lst l => U ρ1 fun xs ρ2 => ∃ (ns : List Int) (n : Int) (k : Nat), l = iL ns ∧ xs = [.int n] ∧ ns[k]? = some n ∧ (∀ (j : Nat) (z : Int), j < k → ns[j]? = some z → z ≠ n) ∧ Q (.int (k : Nat)) ρ2
  | _ => False := rfl
end TkL


local macro_rules | `(tactic| walk_at "ewk") => do
  let nms (s : String) := (s.splitOn " ").toArray.map fun x => Lean.mkIdent x.toName
  let x1 := nms "TkL.e_idx TkL.e_fB TkL.e_fL TkL.e_fE TkL.e_fO TkL.e_never TkL.e_enum TkL.e_rng3 TkL.e_ext TkL.e_augI TkL.e_bor TkL.e_retO TkL.e_retNO TkL.e_par_ovv TkL.e_mk TkL.e_setI TkL.e_g0 TkL.e_gThen TkL.e_gPl TkL.e_gYield TkL.e_gFor TkL.lcs_nil TkL.lcs_cons TkL.fors_nil TkL.fors_cons List.nil_append List.cons_append Nat.reduceLT"
  let t1 ← `(tactic| simp only [$[$x1:ident],*])
  `(tactic| repeat (first | ($t1:tactic) | walk_at "ew"))
namespace TkL
open PySem PySem.Spec PySem.Calls PyProof.Rows L2 Tk
end TkL


namespace TkL
open PySem PySem.Spec PySem.Calls PyProof.Rows L2 Tk
section
variable {r q : RV} (rb : RB r) (qb : RB q) {h : Int} (h0 : 0 ≤ h) (e : ∀ t, q.has t = r.has (t - h))
include rb qb h0 e
end
end TkL


namespace TkL
open PySem PySem.Spec PySem.Calls PyProof.Rows L2 Tk
end TkL


namespace TkL
open PySem PySem.Spec PySem.Calls PyProof.Rows L2 Tk
end TkL


namespace TkL
open PySem PySem.Spec PyProof.Rows L2
def rCntF (K : PySem.W.Frag) : V → List V → Hp → VK → Prop := fun x xs H Q => ∃ (p : Addr) (ys : List V) (y : V), x = .ref p ∧ xs = [y] ∧ SqL K H p ys ∧ flatV y = true ∧ ys.all flatV = true ∧ Q (.int (ys.countP fun z => eqV z y : Nat)) H
theorem countF_eq {y : V} : ∀ {ys : List V} {us : List Value}, Vals ys us → ys.all flatV = true → us.countP (eqU y) = ys.countP fun z => eqV z y
  | _, _, .nil, _ => rfl
  | _, _, .cons r t, h => by
    rw [List.all_cons, Bool.and_eq_true] at h
    rw [List.countP_cons, List.countP_cons, countF_eq t h.2, eqU_of r h.1]
theorem mt_countF {X : Cx} : MtR X "list.count" (rCntF X.K) := by
  intro pins s σ H x xs v us Q I rx rxs h
  obtain ⟨p, ys, y, rfl, rfl, hs, fy, fys, q⟩ := h
  cases rx
  obtain ⟨u, rfl, ru⟩ := rxs.one
  obtain ⟨its, rv, ⟨⟨cls, dd, data, sl⟩, n, ho, hc, hdn, hd⟩, hlen⟩ := I.list hs
  simp only at hc hd
  subst hc hd
  refine call_meets PySem.F.slot_list_count ⟨_, ho, rfl⟩ PySem.F.entry_list_count (PySem.F.args_list_count_2 _ _)
    (SeqAt.list_countAt p its.toArray n dd sl u (eqU y)) ⟨ho, fun u' hu' => mem_eqAt ru fy rv fys u' (by simpa using hu'), ?_⟩
  have ec : its.toArray.toList.countP (eqU y) = ys.countP fun z => eqV z y := countF_eq rv fys
  refine ⟨.int (ys.countP fun z => eqV z y : Nat), H, I.tok _, ⟨s.toks, ?_⟩, q⟩
  show Value.int ((its.toArray.toList.countP (eqU y) : Nat) : Int) s.toks = Value.int ((ys.countP fun z => eqV z y : Nat) : Int) s.toks
  rw [ec]
end TkL


namespace TkL
open PySem PySem.Spec PySem.Calls PyProof.Rows L2 Tk
def errName (i : Nat) : Str := (["tick", "number", "none", "long", "endless", "contradiction", "name", "unknown"] : List Str).getD i ""
def kindsL (i : Nat) : List V := (List.range 11).map fun j => .bl (decide (j = i))
theorem kinds_flat {i : Nat} : (kindsL i).all flatV = true := rfl
def namesL : List V := (["tick", "number", "none", "long", "endless", "contradiction", "name", "unknown", "row", "text"] : List Str).map V.str
section
variable {K : PySem.W.Frag} {E a c : Addr} {cs : Nat → Addr} {σ : L2.St} {H : Hp} {Q : VK} {b : Bool}
end
end TkL


namespace TkL
open PySem PySem.Spec PySem.Calls PyProof.Rows L2 Tk LamX
end TkL


namespace TkL
open PySem PySem.Spec PySem.Calls PyProof.Rows L2 Tk
end TkL


namespace TkL
open PySem PySem.Spec PySem.Calls PyProof.Rows L2 Tk
def Nmu (ρ : Env) (x : Addr) : Prop := ∀ (i : Nat) M fp, ρ[i]? = some (.mu M fp) → x ∉ fp
def Sty (H : Hp) (x : Addr) : Prop := ∃ o, H x = some o ∧ ∀ ps, o ≠ .tbl ps
structure Kx (B : Bs) (σ : L2.St) (H F : Hp) (ρ : Env) (H' F' : Hp) (ρ' : Env) : Prop where
  kp : ∀ x o, Nmu ρ x → some x ≠ B.dO → (∀ ps, o ≠ .tbl ps) → H x = some o → H' x = some o
  nn : ∀ x, Nmu ρ x → Sty H x → Sty H' x
  ow : ∀ (i : Nat) l, ρ'[i]? = some (.own l) → ∃ l', ρ[i]? = some (.own l')
  pr : ∀ x, Sty H x → F x = none → (∀ (i : Nat) l, ρ[i]? = some (.own l) → σ[i]? ≠ some (some (.ref x))) → Nmu ρ x → F' x = none
  mw : ∀ x, Sty H x → Nmu ρ x → Nmu ρ' x
section
variable {B : Bs} {σ : L2.St} {H F H1 F1 H2 F2 : Hp} {ρ ρ1 ρ2 : Env}
theorem Kx.refl : Kx B σ H F ρ H F ρ := ⟨fun _ _ _ _ _ h => h, fun _ _ h => h, fun _ l h => ⟨l, h⟩, fun _ _ h _ _ => h, fun _ _ h => h⟩
theorem Kx.trans (a : Kx B σ H F ρ H1 F1 ρ1) (b : Kx B σ H1 F1 ρ1 H2 F2 ρ2) : Kx B σ H F ρ H2 F2 ρ2 :=
  ⟨fun x o n d t h => b.kp x o (a.mw x ⟨o, h, t⟩ n) d t (a.kp x o n d t h), fun x n h => b.nn x (a.mw x h n) (a.nn x n h), fun i l h => by
    obtain ⟨m, h1⟩ := b.ow i l h
    exact a.ow i m h1, fun x h1 h2 h3 h4 => b.pr x (a.nn x h4 h1) (a.pr x h1 h2 h3 h4) (fun i l h => by
    obtain ⟨m, h5⟩ := a.ow i l h
    exact h3 i m h5) (a.mw x h1 h4), fun x h n => b.mw x (a.nn x n h) (a.mw x h n)⟩
theorem Kq.x (k : Kq B σ H F ρ H1 F1 ρ1) (R' : RelH B H1 F1) : Kx B σ H F ρ H1 F1 ρ1 :=
  ⟨fun x o _ d _ h => k.kp x o d h, fun x _ ⟨o, h, t⟩ => by
    by_cases c : some x = B.dO
    · obtain ⟨l, e, _⟩ := (R'.dd x c.symm).1
      exact ⟨_, e, fun _ z => nomatch z⟩
    · exact ⟨o, k.kp x o c h, t⟩, k.ow, fun x ⟨o, h1, _⟩ h2 h3 _ => k.pr x (by rw [h1]; exact Option.some_ne_none _) h2 h3, fun x _ n i M fp e => n i M fp (k.mw i M fp e)⟩
end
def SimX (B : Bs) (t : TE) (u : UE) : Prop := ∀ H F σ ρ (Q : VK) (P : D → Env → Prop), RelF B H F σ ρ → u ρ P →
  (∀ H' F' v d ρ', Ex F F' → Kx B σ H F ρ H' F' ρ' → RelF B H' F' σ ρ' → Rep B.K B.C B.dO F' v d → P d ρ' → Q v H') → t σ H Q
def SimXT (B : Bs) (t : TT) (u : UT) : Prop := ∀ H F σ ρ (Q : Bool → Hp → Prop) (P : Bool → Env → Prop), RelF B H F σ ρ → u ρ P →
  (∀ H' F' c ρ', Ex F F' → Kx B σ H F ρ H' F' ρ' → RelF B H' F' σ ρ' → P c ρ' → Q c H') → t σ H Q
def SimXP (B : Bs) (t : TA) (u : UA) : Prop := ∀ H F σ ρ (Q : List V → Hp → Prop) (P : List D → Env → Prop), RelF B H F σ ρ → u ρ P →
  (∀ H' F' v d ρ', Ex F F' → Kx B σ H F ρ H' F' ρ' → RelF B H' F' σ ρ' → Reps B.K B.C B.dO F' v d → P d ρ' → Q v H') → t σ H Q
def SimXN (B : Bs) (t : TE) (u : UE) : Prop := ∀ H F σ ρ (Q : VK) (P : D → Env → Prop), RelF B H F σ ρ → u ρ P →
  (∀ H' F' p vs l ρ', Ex F F' → Kx B σ H F ρ H' F' ρ' → RelF B H' F' σ ρ' → B.H0 p = none → H p = none → Fre σ ρ' p → F' p = none → H' p = some (.lst vs) → Reps B.K B.C B.dO F' vs l → P (.lst l) ρ' → Q (.ref p) H') → t σ H Q
section
variable {B : Bs} {t ta tb tc : TE} {u ua ub uc : UE} {tt tt' : TT} {ut ut' : UT} {A : TA} {U : UA} {ts ts' : TS} {us us' : US}
theorem SimE.x (h : SimE B t u) : SimX B t u := fun H F σ ρ Q P R hu k => h H F σ ρ Q P R hu fun H' F' v d ρ' e kp R' rp p => k H' F' v d ρ' e (kp.x R'.toRelH) R' rp p
theorem SimT.x (h : SimT B tt ut) : SimXT B tt ut := fun H F σ ρ Q P R hu k => h H F σ ρ Q P R hu fun H' F' c ρ' e kp R' p => k H' F' c ρ' e (kp.x R'.toRelH) R' p
theorem SimP.x (h : SimP B A U) : SimXP B A U := fun H F σ ρ Q P R hu k => h H F σ ρ Q P R hu fun H' F' v d ρ' e kp R' rp p => k H' F' v d ρ' e (kp.x R'.toRelH) R' rp p
theorem SimXN.x (h : SimXN B t u) : SimX B t u := fun H F σ ρ Q P R hu k => h H F σ ρ Q P R hu fun H' F' p vs l ρ' e kp R' h0 hp hn hF hH rp hP => by
  obtain ⟨e1, R1⟩ := R'.frzN h0 hn hF hH
  refine k H' _ _ _ ρ' (e.trans e1) ⟨kp.kp, kp.nn, kp.ow, fun x h1 h2 h3 h4 => ?_, kp.mw⟩ R1 (.lst upd_same (rp.ex e1)) hP
  rw [upd_ne fun z => by obtain ⟨o, h1, _⟩ := h1; rw [z, hp] at h1; cases h1]
  exact kp.pr x h1 h2 h3 h4
theorem sX_op {r : R2} {q : U2} (h : Sim2 B r q) (ha : SimX B ta ua) (hb : SimX B tb ub) : SimX B (tOp r ta tb) (uOp q ua ub) := fun H F σ ρ Q P R hu k =>
  ha H F σ ρ _ _ R hu fun H1 F1 x dx ρ1 e1 k1 R1 r1 p1 => hb H1 F1 σ ρ1 _ _ R1 p1 fun H2 F2 y dy ρ2 e2 k2 R2 r2 p2 =>
    h H2 F2 x y dx dy _ _ R2.toRelH ((r1.ex e2).w R2.toRelH) (r2.w R2.toRelH) p2 fun H3 F3 v d s rp p3 => k H3 F3 v d ρ2 (e1.trans (e2.trans s.ex)) (k1.trans (k2.trans ((s.kq R2).x (s.relH R2.toRelH)))) (s.rel _ _ R2) rp p3
theorem sXT_B (ha : SimX B ta ua) : SimXT B (tB ta) (uB ua) := fun H F σ ρ Q P R hu k =>
  ha H F σ ρ _ _ R hu fun H1 F1 v d ρ1 e1 k1 R1 r1 p1 => by
    obtain ⟨c, rfl, p1⟩ := p1
    cases r1
    exact ⟨c, rfl, k H1 F1 _ ρ1 e1 k1 R1 p1⟩
theorem sXT_test (ha : SimX B ta ua) : SimXT B (tTest ta) (uB ua) := sXT_B ha
theorem sXT_not (ha : SimXT B tt ut) : SimXT B (tNot tt) (uNot ut) := fun H F σ ρ Q P R hu k =>
  ha H F σ ρ _ _ R hu fun H1 F1 c ρ1 e1 k1 R1 p1 => k H1 F1 _ ρ1 e1 k1 R1 p1
theorem sXP_nil : SimXP B tNil uNil := sP_nil.x
theorem sXP_cons (ha : SimX B ta ua) (hA : SimXP B A U) : SimXP B (tCons ta A) (uCons ua U) := fun H F σ ρ Q P R hu k =>
  ha H F σ ρ _ _ R hu fun H1 F1 x dx ρ1 e1 k1 R1 r1 p1 => hA H1 F1 σ ρ1 _ _ R1 p1 fun H2 F2 y dy ρ2 e2 k2 R2 r2 p2 =>
    k H2 F2 _ _ ρ2 (e1.trans e2) (k1.trans k2) R2 (.cons (r1.ex e2) r2) p2
theorem sS_dropX (h : SimX B ta ua) : SimS B (tDrop ta) (uDrop ua) := fun H F σ ρ D1 P R hu k => h H F σ ρ _ _ R hu fun H1 F1 v d ρ1 e1 k1 R1 r1 p1 => k.nx H1 F1 σ ρ1 e1 R1 p1
theorem sS_ifX (hc : SimXT B tt ut) (h : SimS B ts us) (h' : SimS B ts' us') : SimS B (tIfS tt ts ts') (uIfS ut us us') := fun H F σ ρ D1 P R hu k =>
  hc H F σ ρ _ _ R hu fun H1 F1 c ρ1 e1 k1 R1 p1 => by
    cases c with
    | true => exact h H1 F1 σ ρ1 D1 P R1 p1 (k.up e1)
    | false => exact h' H1 F1 σ ρ1 D1 P R1 p1 (k.up e1)
theorem sS_asgX {g : TG} {ug : UG} (h : SimX B ta ua) (hg : SimG B g ug) : SimS B (tAsg ta g) (uAsg ua ug) := fun H F σ ρ D1 P R hu k =>
  h H F σ ρ _ _ R hu fun H1 F1 v d ρ1 e1 k1 R1 r1 p1 => hg H1 F1 σ ρ1 v d _ _ R1 r1 p1 fun σ' ρ' R' p' => k.nx H1 F1 σ' ρ' e1 R' p'
end
end TkL


namespace TkL
open PySem PySem.Spec PySem.Calls PyProof.Rows L2 Tk
structure Own (S : Type) where
  cls : Addr
  mu : S → Mu
  fd : Str → Bool
  ins : ∀ {s : S} {K C dO H F p fp}, (mu s).At K C dO H F p fp → ∃ dx fs, H p = some (.ins cls dx fs) ∧ p ∈ fp ∧ ∀ m, fd m = false → fs.lookup m = none
def minus (H : Hp) (fp : List Addr) : Hp := fun x => if x ∈ fp then none else H x
theorem minus_in {H : Hp} {fp : List Addr} {x : Addr} (h : x ∈ fp) : minus H fp x = none := if_pos h
theorem minus_out {H : Hp} {fp : List Addr} {x : Addr} (h : x ∉ fp) : minus H fp x = H x := if_neg h
def MuOk (dO : Option Addr) (H F : Hp) (fp : List Addr) : Prop := ∀ x ∈ fp, some x ≠ dO ∧ F x = none ∧ ∃ o, H x = some o ∧ ∀ ps, o ≠ .tbl ps
abbrev UM (S : Type) := S → List D → (D → S → Prop) → Prop
structure AftM (K : PySem.W.Frag) (C : Addr) (dO : Option Addr) (H F : Hp) (fp : List Addr) (M : Mu) (p : Addr) (H' F' : Hp) (fp' : List Addr) : Prop where
  rel : RelH ⟨K, C, dO, minus H fp, F, []⟩ H' F'
  at' : M.At K C dO H' F' p fp'
  ok : MuOk dO H' F' fp'
  nw : ∀ x ∈ fp', x ∈ fp ∨ H x = none
def muSt {S : Type} (O : Own S) (x : Option Sl) (k : S → List Addr → Prop) : Prop := ∃ s fp, x = some (.mu (O.mu s) fp) ∧ k s fp
def uMet {S : Type} (O : Own S) (i : Nat) (g : UM S) (a : UA) : UE := fun ρ P => muSt O ρ[i]? (fun _ _ => True) ∧ a ρ fun ds ρ1 => muSt O ρ1[i]? fun s fp => g s ds fun d s' => ∀ fp', P d (ρ1.set i (.mu (O.mu s') fp'))
theorem e_met {S : Type} {O : Own S} {i : Nat} {g : UM S} {a : UA} {ρ : Env} {P : D → Env → Prop} : uMet O i g a ρ P = (muSt O ρ[i]? (fun _ _ => True) ∧ a ρ fun ds ρ1 => muSt O ρ1[i]? fun s fp => g s ds fun d s' => ∀ fp', P d (ρ1.set i (.mu (O.mu s') fp'))) := rfl
section
variable {B : Bs} {σ : L2.St} {H F H' F' : Hp} {ρ : Env}
theorem AftM.keep {K : PySem.W.Frag} {C : Addr} {dO : Option Addr} {fp fp' : List Addr} {M : Mu} {p : Addr} (A : AftM K C dO H F fp M p H' F' fp') {x : Addr} {o : HO} (n : x ∉ fp) (d : some x ≠ dO) (h : H x = some o) : H' x = some o :=
  A.rel.kp x o d (fun _ z => nomatch z) (by show minus H fp x = some o; rw [minus_out n]; exact h)
def muAt (x : Option Sl) (k : Mu → Prop) : Prop := ∃ M fp, x = some (.mu M fp) ∧ k M
def uMSeq (a : US) (b : (D → Mu → Prop) → Env → Prop) : (D → Mu → Prop) → Env → Prop := fun PM ρ => a { nx := b PM, rt := fun _ => False } ρ
def uMRet (a : UE) : (D → Mu → Prop) → Env → Prop := fun PM ρ => a ρ fun d ρ1 => muAt ρ1[0]? fun M => PM d M
def uMRetN (a : UE) : (List D → Mu → Prop) → Env → Prop := fun PM ρ => a ρ fun d ρ1 => match d with | .lst l => muAt ρ1[0]? fun M => PM l M | _ => False
theorem e_mseq {a : US} {b : (D → Mu → Prop) → Env → Prop} {PM : D → Mu → Prop} {ρ : Env} : uMSeq a b PM ρ = a { nx := b PM, rt := fun _ => False } ρ := rfl
theorem e_mret {a : UE} {PM : D → Mu → Prop} {ρ : Env} : uMRet a PM ρ = a ρ fun d ρ1 => muAt ρ1[0]? fun M => PM d M := rfl
theorem e_mretN {a : UE} {PM : List D → Mu → Prop} {ρ : Env} : uMRetN a PM ρ = a ρ fun d ρ1 => match d with | .lst l => muAt ρ1[0]? fun M => PM l M | _ => False := rfl
end
section
variable {B : Bs} {σ : L2.St} {H F H' : Hp} {ρ : Env}
end
end TkL


namespace TkL
open PySem PySem.Spec PySem.Calls PyProof.Rows L2 Tk
structure JV where
  first : RV
  second : RV
  kept : List Int
  facts : List (Int × Bool)
def factD (f : Int × Bool) : D := .tup [.int f.1, .bl f.2]
def factsD (l : List (Int × Bool)) : List D := l.map factD
def jFs (a b k f : Addr) : List (Str × V) := [("first_row", .ref a), ("second_row", .ref b), ("kept", .ref k), ("facts", .ref f)]
def jFd (m : Str) : Bool := ("first_row" : Str) == m || ("second_row" : Str) == m || ("kept" : Str) == m || ("facts" : Str) == m
def JAt (CJ : Addr) (po : Option Addr) (s : JV) (K : PySem.W.Frag) (C : Addr) (dO : Option Addr) (H F : Hp) (p : Addr) (fp : List Addr) : Prop :=
  (∀ q, po = some q → p = q) ∧ ∃ dx a b k f fv, H p = some (.ins CJ dx (jFs a b k f)) ∧ RowAt K C F a s.first ∧ RowAt K C F b s.second ∧ Rep K C dO F (.ref k) (.lst (iL s.kept)) ∧ H f = some (.lst fv) ∧ Reps K C dO F fv (factsD s.facts) ∧ fp = [p, f] ∧ p ≠ f ∧ CJ ≠ C
def muJ (CJ : Addr) (po : Option Addr) (s : JV) : Mu := ⟨JAt CJ po s, fun h keep e => by
  obtain ⟨hp, dx, a, b, k, f, fv, h1, h2, h3, h4, h5, h6, rfl, h7, h8⟩ := h
  refine ⟨hp, dx, a, b, k, f, fv, ?_, h2.ex' e, h3.ex' e, h4.ex e, ?_, h6.ex e, rfl, h7, h8⟩
  · rw [keep _ (by simp)]; exact h1
  · rw [keep _ (by simp)]; exact h5⟩
def ownJ (CJ : Addr) (po : Option Addr) : Own JV where
  cls := CJ
  mu := muJ CJ po
  fd := jFd
  ins := fun {s K C dO H F p fp} h => by
    obtain ⟨hp, dx, a, b, k, f, fv, h1, h2, h3, h4, h5, h6, rfl, h7, h8⟩ := h
    refine ⟨dx, _, h1, by simp, fun m hm => ?_⟩
    unfold jFd at hm
    simp only [Bool.or_eq_false_iff] at hm
    obtain ⟨⟨⟨e1, e2⟩, e3⟩, e4⟩ := hm
    have sy : ∀ {x : Str}, (x == m) = false → (m == x) = false := fun {x} h => by
      cases c : (m == x) with
      | false => rfl
      | true => rw [beq_iff_eq] at c; rw [c, beq_self_eq_true] at h; cases h
    unfold jFs
    simp only [List.lookup, sy e1, sy e2, sy e3, sy e4]
section
variable {K : PySem.W.Frag} {C CJ : Addr} {dO : Option Addr} {H F H' F' : Hp} {fp fp' : List Addr} {p : Addr} {s : JV}
theorem JAt.pin (h : JAt CJ none s K C dO H F p fp) : JAt CJ (some p) s K C dO H F p fp := ⟨fun q e => Option.some.inj e, h.2⟩
end
def muJt (CJ : Addr) (x : Option Sl) (k : Option Addr → JV → List Addr → Prop) : Prop := ∃ po s fp, x = some (.mu (muJ CJ po s) fp) ∧ k po s fp
def uJKept (CJ : Addr) (i : Nat) : UE := fun ρ P => muJt CJ ρ[i]? fun _ s _ => P (.lst (iL s.kept)) ρ
def uJFacts (CJ : Addr) (i : Nat) : UE := fun ρ P => muJt CJ ρ[i]? fun _ s _ => P (.lst (factsD s.facts)) ρ
def meetsB (r s : RV) (h t : Int) : Bool := decide (h ≤ t) && (s.has t && r.has (t - h))
def uJMeets (CJ : Addr) (i : Nat) (a : UA) : UE := fun ρ P => muJt CJ ρ[i]? (fun _ _ _ => True) ∧ a ρ fun ds ρ1 => match ds with | [.int h, .int t] => muJt CJ ρ1[i]? fun _ s _ => P (.bl (meetsB s.first s.second h t)) ρ1 | _ => False
def uJSet (CJ : Addr) (i : Nat) (a : UE) : US := fun P ρ => a ρ fun d ρ1 => muJt CJ ρ1[i]? fun po s fp => ∃ l, d = .lst (iL l) ∧ P.nx (ρ1.set i (.mu (muJ CJ po { s with kept := l }) fp))
def uJApp (CJ : Addr) (i : Nat) (a : UE) : US := fun P ρ => muJt CJ ρ[i]? (fun _ _ _ => True) ∧ a ρ fun d ρ1 => muJt CJ ρ1[i]? fun po s fp => ∃ f, d = factD f ∧ s.facts.length < 1000000 ∧ P.nx (ρ1.set i (.mu (muJ CJ po { s with facts := s.facts ++ [f] }) fp))
section
variable {CJ : Addr} {i : Nat} {a : UE} {A : UA} {ρ : Env} {P : D → Env → Prop} {Q : UEnds}
theorem e_jkept : uJKept CJ i ρ P = muJt CJ ρ[i]? fun _ s _ => P (.lst (iL s.kept)) ρ := rfl
theorem e_jfacts : uJFacts CJ i ρ P = muJt CJ ρ[i]? fun _ s _ => P (.lst (factsD s.facts)) ρ := rfl
theorem e_jmeets : uJMeets CJ i A ρ P = (muJt CJ ρ[i]? (fun _ _ _ => True) ∧ A ρ fun ds ρ1 => match ds with | [.int h, .int t] => muJt CJ ρ1[i]? fun _ s _ => P (.bl (meetsB s.first s.second h t)) ρ1 | _ => False) := rfl
theorem e_jset : uJSet CJ i a Q ρ = a ρ fun d ρ1 => muJt CJ ρ1[i]? fun po s fp => ∃ l, d = .lst (iL l) ∧ Q.nx (ρ1.set i (.mu (muJ CJ po { s with kept := l }) fp)) := rfl
theorem e_japp : uJApp CJ i a Q ρ = (muJt CJ ρ[i]? (fun _ _ _ => True) ∧ a ρ fun d ρ1 => muJt CJ ρ1[i]? fun po s fp => ∃ f, d = factD f ∧ s.facts.length < 1000000 ∧ Q.nx (ρ1.set i (.mu (muJ CJ po { s with facts := s.facts ++ [f] }) fp))) := rfl
end
section
variable {B : Bs} {CJ : Addr} {i : Nat} {ta : TE} {ua : UE} {A : TA} {U : UA}
end
section
variable {K : PySem.W.Frag} {C CJ : Addr} {N : List Str} {vs : List V} {H : Hp} {Q : VK} {E : XK} {ts : TS}
end
end TkL


namespace TkL
open PySem PySem.Spec PySem.Calls PyProof.Rows L2 Tk
section
variable {B : Bs} {σ : L2.St} {H F H' F' : Hp} {ρ : Env}
theorem RelF.setM (R : RelF B H F σ ρ) {i : Nat} {M : Mu} {p : Addr} {fp : List Addr} (at' : M.At B.K B.C B.dO H F p fp) (ok : ∀ x ∈ fp, B.H0 x = none ∧ F x = none ∧ Fre σ ρ x ∧ ∃ o, H x = some o ∧ ∀ ps, o ≠ .tbl ps) : RelF B H F (σ.set i (some (.ref p))) (ρ.set i (.mu M fp)) := by
  have hl := R.len
  have get : ∀ (j : Nat) s, (ρ.set i (.mu M fp))[j]? = some s → (j = i ∧ s = .mu M fp ∧ i < ρ.length) ∨ (j ≠ i ∧ ρ[j]? = some s) := fun j s e => by
    rw [List.getElem?_set] at e
    by_cases c : i = j
    · rw [if_pos c] at e
      split at e
      · exact .inl ⟨c.symm, (Option.some.inj e).symm, by omega⟩
      · cases e
    · rw [if_neg c] at e; exact .inr ⟨fun z => c z.symm, e⟩
  have sg : ∀ (j : Nat), j ≠ i → (σ.set i (some (.ref p)))[j]? = σ[j]? := fun j n => by rw [List.getElem?_set, if_neg fun z => n z.symm]
  refine ⟨R.toRelH, by rw [List.length_set, List.length_set]; exact R.len, fun j d e => ?_, fun j l e => ?_, fun j k l m q e1 e2 h1 h2 => ?_, fun j N gp e => ?_, fun j k N gp l q e1 e2 h1 => ?_, fun j k N N' gp gp' x n e1 e2 hx => ?_⟩
  · rcases get j _ e with ⟨_, z, _⟩ | ⟨n, e⟩
    · cases z
    · rw [sg j n]; exact R.val j d e
  · rcases get j _ e with ⟨_, z, _⟩ | ⟨n, e⟩
    · cases z
    · rw [sg j n]; exact R.own j l e
  · rcases get j _ e1 with ⟨_, z, _⟩ | ⟨n1, f1⟩
    · cases z
    · rcases get k _ e2 with ⟨_, z, _⟩ | ⟨n2, f2⟩
      · cases z
      · rw [sg j n1] at h1; rw [sg k n2] at h2
        exact R.inj j k l m q f1 f2 h1 h2
  · rcases get j _ e with ⟨rfl, z, il⟩ | ⟨n, e⟩
    · cases z
      refine ⟨p, by rw [List.getElem?_set, if_pos rfl, if_pos (by omega)], at', fun x hx => ?_⟩
      obtain ⟨a, b, _, c⟩ := ok x hx
      exact ⟨a, b, c⟩
    · rw [sg j n]; exact R.mu j N gp e
  · rcases get k _ e2 with ⟨_, z, _⟩ | ⟨n2, f2⟩
    · cases z
    · rw [sg k n2] at h1
      rcases get j _ e1 with ⟨_, z, _⟩ | ⟨n1, f1⟩
      · cases z
        exact fun hq => (ok q hq).2.2.1.1 k l f2 h1
      · exact R.mo j k N gp l q f1 f2 h1
  · rcases get j _ e1 with ⟨j0, z1, _⟩ | ⟨n1, f1⟩
    · rcases get k _ e2 with ⟨k0, z2, _⟩ | ⟨n2, f2⟩
      · exact absurd (j0.trans k0.symm) n
      · cases z1
        exact (ok x hx).2.2.1.2 k N' gp' f2
    · rcases get k _ e2 with ⟨k0, z2, _⟩ | ⟨n2, f2⟩
      · cases z2
        exact fun z => (ok x z).2.2.1.2 j N gp f1 hx
      · exact R.mm j k N N' gp gp' x n f1 f2 hx
def uAsgM {S : Type} (O : Own S) (a : Env → (S → Env → Prop) → Prop) (i : Nat) : US := fun P ρ => a ρ fun s ρ1 => ∀ fp, P.nx (ρ1.set i (.mu (O.mu s) fp))
def uParMV {S : Type} (O : Own S) (i j : Nat) (a : Env → (S → Env → Prop) → Prop) (b : UE) : US := fun P ρ => a ρ fun s ρ1 => b ρ1 fun d ρ2 => ∀ fp, P.nx ((ρ2.set i (.mu (O.mu s) fp)).set j (.val d))
end
def limL (n : Int) : List Int := (List.range (n + 1).toNat).map fun (i : Nat) => (i : Int)
def uJMk (a : UA) : Env → (JV → Env → Prop) → Prop := fun ρ P => a ρ fun ds ρ1 => ∃ r s n, ds = [.row r, .row s, .int n] ∧ 0 ≤ n ∧ n ≤ 500 ∧ P ⟨r, s, limL n, []⟩ ρ1
section
variable {B : Bs} {A : TA} {U : UA}
end
end TkL



namespace TkL
open PySem PySem.Spec PySem.Calls PyProof.Rows L2 Tk
section
variable (K : PySem.W.Frag) (C : Addr) (CJ : Addr)
end
end TkL


namespace TkL
open PySem PySem.Spec PySem.Calls PyProof.Rows L2 Tk
section
variable {K : PySem.W.Frag} {C CJ : Addr} {vs : List V} {H : Hp} {Q : VK} {E : XK}
end
def keepJ (s : JV) (t : Int) (b : Bool) : List Int := s.kept.filter fun h => decide (meetsB s.first s.second h t = b)
def seenJ (s : JV) (t : Int) (b : Bool) : JV := { s with kept := keepJ s t b, facts := s.facts ++ [(t, b)] }
def gSee : UM JV := fun s ds P => ∃ t b, ds = [.int t, .bl b] ∧ 0 ≤ t ∧ t ≤ 1000000000000000000 ∧ keepJ s t b ≠ [] ∧ s.kept.length ≤ 1000 ∧ s.facts.length < 1000000 ∧ P (.int ((keepJ s t b).length : Nat)) (seenJ s t b)
def uCnt (a : UE) (U : UA) : UE := fun ρ P => a ρ fun x ρ1 => match x with
  | .lst l => U ρ1 fun xs ρ2 => ∃ (bs : List Bool) (b : Bool), l = bL bs ∧ xs = [.bl b] ∧ P (.int (bs.count b : Nat)) ρ2
  | _ => False
section
variable {B : Bs} {ta : TE} {ua : UE} {A : TA} {U : UA}
def uLrng (a : UE) : UE := fun ρ P => a ρ fun d ρ1 => ∃ n, d = .int n ∧ 0 ≤ n ∧ n ≤ 1000000 ∧ P (.lst (iL ((List.range n.toNat).map fun (i : Nat) => (i : Int)))) ρ1
end
section
variable {a : UE} {U : UA} {ρ : Env} {Q : D → Env → Prop}
theorem e_cnt : uCnt a U ρ Q = a ρ fun x ρ1 => match x with
  | .lst l => U ρ1 fun xs ρ2 => ∃ (bs : List Bool) (b : Bool), l = bL bs ∧ xs = [.bl b] ∧ Q (.int (bs.count b : Nat)) ρ2
  | _ => False := rfl
theorem e_lrng : uLrng a ρ Q = a ρ fun d ρ1 => ∃ n, d = .int n ∧ 0 ≤ n ∧ n ≤ 1000000 ∧ Q (.lst (iL ((List.range n.toNat).map fun (i : Nat) => (i : Int)))) ρ1 := rfl
end
section
variable {S : Type} {O : Own S} {a : Env → (S → Env → Prop) → Prop} {b : UE} {i j : Nat} {P : UEnds} {ρ : Env} {A : UA} {R : JV → Env → Prop}
theorem e_asgM : uAsgM O a i P ρ = a ρ fun s ρ1 => ∀ fp, P.nx (ρ1.set i (.mu (O.mu s) fp)) := rfl
theorem e_parMV : uParMV O i j a b P ρ = a ρ fun s ρ1 => b ρ1 fun d ρ2 => ∀ fp, P.nx ((ρ2.set i (.mu (O.mu s) fp)).set j (.val d)) := rfl
theorem e_jmk : uJMk A ρ R = A ρ fun ds ρ1 => ∃ r s n, ds = [.row r, .row s, .int n] ∧ 0 ≤ n ∧ n ≤ 500 ∧ R ⟨r, s, limL n, []⟩ ρ1 := rfl
theorem o_mu {CJ : Addr} {po : Option Addr} {s : JV} : (ownJ CJ po).mu s = muJ CJ po s := rfl
end
end TkL
namespace TkL
open PySem PySem.Spec PySem.Calls PyProof.Rows L2 Tk
end TkL



namespace TkL
open PySem PySem.Spec PySem.Calls PyProof.Rows L2 Tk
section
variable (K : PySem.W.Frag) (C : Addr) (CJ : Addr) (CR : Addr) (T0 : Addr)
end
end TkL


local macro_rules | `(tactic| walk_at "ewj") => do
  let nms (s : String) := (s.splitOn " ").toArray.map fun x => Lean.mkIdent x.toName
  let x1 := nms "TkL.e_mseq TkL.e_mret TkL.e_mretN TkL.e_met TkL.e_jkept TkL.e_jfacts TkL.e_jmeets TkL.e_jset TkL.e_japp TkL.e_cnt TkL.e_lrng TkL.e_asgM TkL.e_parMV TkL.e_jmk TkL.o_mu TkL.e_idx TkL.e_fB TkL.e_fL TkL.e_fE TkL.e_fO TkL.e_never TkL.e_enum TkL.e_rng3 TkL.e_ext TkL.e_augI TkL.e_bor TkL.e_retO TkL.e_retNO TkL.e_par_ovv TkL.e_mk TkL.e_setI TkL.e_g0 TkL.e_gThen TkL.e_gPl TkL.e_gYield TkL.e_gFor TkL.lcs_nil TkL.lcs_cons TkL.fors_nil TkL.fors_cons List.nil_append List.cons_append Nat.reduceLT"
  let t1 ← `(tactic| simp only [$[$x1:ident],*])
  `(tactic| repeat (first | ($t1:tactic) | walk_at "ew" | (with_reducible refine And.intro (TkL.muJt_i trivial) ?_) | (with_reducible refine TkL.muJt_i ?_) | (with_reducible refine And.intro (TkL.muS_i trivial) ?_) | (with_reducible refine TkL.muS_i ?_)))
namespace TkL
open PySem PySem.Spec PySem.Calls PyProof.Rows L2 Tk
end TkL



namespace TkL
open PySem PySem.Spec PySem.Calls PyProof.Rows L2 Tk
section
variable (K : PySem.W.Frag) (C : Addr) (CJ : Addr) (CR : Addr) (T0 : Addr)
end
end TkL


namespace TkL
open PySem PySem.Spec PySem.Calls PyProof.Rows L2 Tk
end TkL


namespace TkL
open PySem PySem.Spec PySem.Calls PyProof.Rows L2 Tk
def keptOf (r s : RV) (n : Int) (fs : List (Int × Bool)) : List Int := (limL n).filter fun h => fs.all fun f => decide (meetsB r s h f.1 = f.2)
theorem limL_mem {n h : Int} : h ∈ limL n ↔ 0 ≤ h ∧ h ≤ n := by
  unfold limL
  rw [List.mem_map]
  constructor
  · rintro ⟨i, hi, rfl⟩
    have := List.mem_range.mp hi
    omega
  · rintro ⟨h0, h1⟩
    exact ⟨h.toNat, List.mem_range.mpr (by omega), by omega⟩
theorem keptOf_mem {r s : RV} {n h : Int} {fs : List (Int × Bool)} : h ∈ keptOf r s n fs ↔ (0 ≤ h ∧ h ≤ n) ∧ ∀ f ∈ fs, meetsB r s h f.1 = f.2 := by
  unfold keptOf
  rw [List.mem_filter, limL_mem, List.all_eq_true]
  simp
end TkL
namespace TkL
open PySem PySem.Spec PySem.Calls PyProof.Rows L2 Tk
def TrueF (r s : RV) (τ : Int) (fs : List (Int × Bool)) : Prop := ∀ f ∈ fs, 0 ≤ f.1 ∧ f.1 ≤ 1000000000000000000 ∧ meetsB r s τ f.1 = f.2
theorem TrueF.mem {r s : RV} {τ n : Int} {fs : List (Int × Bool)} (h : TrueF r s τ fs) (t0 : 0 ≤ τ) (t1 : τ ≤ n) : τ ∈ keptOf r s n fs := keptOf_mem.mpr ⟨⟨t0, t1⟩, fun f hf => (h f hf).2.2⟩
theorem TrueF.snoc {r s : RV} {τ t : Int} {fs : List (Int × Bool)} (h : TrueF r s τ fs) (a : 0 ≤ t) (b : t ≤ 1000000000000000000) : TrueF r s τ (fs ++ [(t, meetsB r s τ t)]) := fun f hf => by
  rcases List.mem_append.mp hf with hf | hf
  · exact h f hf
  · rw [List.mem_singleton.mp hf]; exact ⟨a, b, rfl⟩
end TkL


namespace TkL
open PySem PySem.Spec PySem.Calls PyProof.Rows L2 Tk LamX
theorem passLam {X : Cx} {A : Around} {outer : List PySem.Env} {s : Shared} {H : Hp} {E : XK} {scope : Scope} {f c' : Addr} : Passes (L2.CX X.prog X.w) (lamCx X A outer s H E scope f c') E :=
  passes_call (X := lamCx X A outer s H E scope f c') (takes_of rfl rfl rfl rfl) fun _ _ _ _ h => h
theorem RelF.lam2 {B : Bs} {H F H' : Hp} {σ : L2.St} {ρ : Env} (R : RelF B H F σ ρ) (hT : B.T ≠ []) (e : LamX.ExtN H H') (t : LamX.Tabs B.T H') : ∃ F', Ex F F' ∧ RelF B H' F' σ ρ ∧ ∀ x o, H x = some o → (∀ ps, o ≠ .tbl ps) → F x = none → F' x = none := by
  have ex : Ex F (growF F H H') := fun x o h => by
    have n : ∀ ps, o ≠ .tbl ps := fun ps z => R.nt x ps (by rw [h, z])
    have h' := e x o (R.fh x o h) n
    rw [growF_some (by rw [h]; exact Option.some_ne_none _) fun ps z => by rw [h'] at z; exact n ps (Option.some.inj z)]
    exact h'
  have keep : ∀ {x : Addr} {o : HO}, H x = some o → (∀ ps, o ≠ .tbl ps) → F x = none → growF F H H' x = none := fun {x o} h n f => by
    unfold growF
    rw [if_pos (.inl ⟨by rw [h]; exact Option.some_ne_none _, f, fun ps z => by rw [h] at z; exact n ps (Option.some.inj z)⟩)]
  refine ⟨growF F H H', ex, ⟨⟨growF_ex, R.ff.trans ex, fun x a b => ?_, fun x o h g => ?_, fun x o n q h => ?_, R.hd, fun d hd => ?_, t, fun p hp => ?_, growF_nt, R.ht⟩, R.len, fun i d h => ?_, fun i l h => ?_, R.inj, fun i M fp h => ?_, R.mo, R.mm⟩, fun x o h n f => keep h n f⟩
  · by_cases c : ∃ q, (x, q) ∈ B.T
    · obtain ⟨q, hq⟩ := c
      obtain ⟨ps, z, _⟩ := t _ hq
      unfold growF
      rw [if_pos (.inr ⟨ps, z⟩)]
    · cases h0 : B.H0 x with
      | none => exact absurd h0 a
      | some o =>
        have n : ∀ ps, o ≠ .tbl ps := fun ps z => c (R.ht hT x ps (by rw [h0, z]))
        by_cases cd : some x = B.dO
        · obtain ⟨ds, z, _⟩ := (R.dd x cd.symm).1
          exact keep z (fun _ z => nomatch z) (R.f0 x a b)
        · exact keep (R.kp x o cd (fun q z => c ⟨q, z⟩) h0) n (R.f0 x a b)
  · by_cases c : ∃ ps, H' x = some (.tbl ps)
    · obtain ⟨ps, c⟩ := c
      rw [h] at c
      exact .inr (.inl ⟨ps, Option.some.inj c⟩)
    · unfold growF at g
      split at g
      · rename_i z
        rcases z with ⟨z1, z2, z3⟩ | z
        · cases hu : H x with
          | none => exact absurd hu z1
          | some u =>
            have n : ∀ ps, u ≠ .tbl ps := fun ps z => z3 ps (by rw [hu, z])
            have := e x u hu n
            rw [h] at this
            have eo : o = u := Option.some.inj this
            rw [eo]
            exact R.lk x u hu z2
        · exact absurd z c
      · rw [h] at g; cases g
  · exact e x o (R.kp x o n q h) fun ps z => by
      obtain ⟨q', hq⟩ := R.ht hT x ps (by rw [h, z])
      exact q q' hq
  · obtain ⟨⟨ds, a1, a2⟩, a3⟩ := R.dd d hd
    exact ⟨⟨ds, e d _ a1 (fun _ z => nomatch z), a2⟩, keep a1 (fun _ z => nomatch z) a3⟩
  · obtain ⟨ps, z, _⟩ := t p hp
    unfold growF
    rw [if_pos (.inr ⟨ps, z⟩)]
  · obtain ⟨v, a, b⟩ := R.val i d h
    exact ⟨v, a, b.ex ex⟩
  · obtain ⟨p, vs, a, b, c, d, g⟩ := R.own i l h
    exact ⟨p, vs, a, b, keep d (fun _ z => nomatch z) c, e p _ d (fun _ z => nomatch z), g.ex ex⟩
  · obtain ⟨p, a, b, c⟩ := R.mu i M fp h
    have kp : ∀ x ∈ fp, H' x = H x := fun x hx => by
      obtain ⟨c1, c2, o, c3, c4⟩ := c x hx
      rw [c3]; exact e x o c3 c4
    refine ⟨p, a, M.st b kp ex, fun x hx => ?_⟩
    obtain ⟨c1, c2, o, c3, c4⟩ := c x hx
    exact ⟨c1, keep c3 c4 c2, o, by rw [kp x hx]; exact c3, c4⟩
theorem startU_rel {K : PySem.W.Frag} {C : Addr} {dO : Option Addr} {H F : Hp} {N : List Str} {vs : List V} {ds : List D} (hN : ds.length ≤ N.length) (R : RelH ⟨K, C, dO, H, F, []⟩ H F) (r : Reps K C dO F vs ds) : RelF ⟨K, C, dO, H, F, []⟩ H F (L2.start N vs) (startU N ds) := by
  have hlen := r.len
  have val : ∀ (i : Nat) d, (startU N ds)[i]? = some (.val d) → ∃ v, (L2.start N vs)[i]? = some (some v) ∧ Rep K C dO F v d := fun i d e => by
    unfold startU at e
    unfold L2.start
    by_cases c : i < ds.length
    · rw [List.getElem?_append_left (by simpa using c), List.getElem?_map] at e
      rw [List.getElem?_append_left (by simpa [hlen] using c), List.getElem?_map]
      cases e1 : ds[i]? with
      | none => rw [e1] at e; cases e
      | some d' =>
        rw [e1] at e
        cases e
        obtain ⟨v, h1, h2⟩ := r.get' e1
        exact ⟨v, by rw [h1]; rfl, h2⟩
    · rw [List.getElem?_append_right (by simpa using c), List.getElem?_replicate] at e
      split at e <;> cases e
  have noown : ∀ (i : Nat) l, (startU N ds)[i]? ≠ some (.own l) := fun i l e => by
    unfold startU at e
    by_cases c : i < ds.length
    · rw [List.getElem?_append_left (by simpa using c), List.getElem?_map] at e
      cases e1 : ds[i]? with
      | none => rw [e1] at e; cases e
      | some d' => rw [e1] at e; cases e
    · rw [List.getElem?_append_right (by simpa using c), List.getElem?_replicate] at e
      split at e <;> cases e
  exact ⟨R, by unfold L2.start startU; simp [hlen], val, fun i l e => absurd e (noown i l), fun i j l m p e => absurd e (noown i l), fun i M fp e => absurd e (startU_mu i M fp), fun i j M fp l p e => absurd e (startU_mu i M fp), fun i j M N fp gp x n e => absurd e (startU_mu i M fp)⟩
section
variable {B : Bs} {cls : Addr} {ts ts' : TS} {us : US} {t : XK → TS} {u : (Env → Prop) → Env → Prop} {tt : TT} {ut : UT}
end
section
variable {ts : US} {b : (Env → Prop) → Env → Prop} {c : UT} {PX : Env → Prop} {ρ : Env}
end
abbrev UMX (S : Type) := S → List D → (S → Prop) → Prop
section
variable {K : PySem.W.Frag} {C CJ cls : Addr} {N : List Str} {vs : List V} {H : Hp} {Q : VK} {E : XK}
end
def uTell {S : Type} (O : Own S) (idx i : Nat) (g : UMX S) (a : UA) : UE := fun ρ P => muSt O ρ[i]? (fun _ _ => True) ∧ a ρ fun ds ρ1 => muSt O ρ1[i]? fun s _ => g s ds fun s' => ∀ fp', P (.tup [.str (errName idx), .int 0]) (ρ1.set i (.mu (O.mu s') fp'))
def uTellU (idx : Nat) (g : List D → Prop) (a : UA) : UE := fun ρ P => a ρ fun ds ρ1 => g ds ∧ P (.tup [.str (errName idx), .int 0]) ρ1
theorem e_tell {S : Type} {O : Own S} {idx i : Nat} {g : UMX S} {a : UA} {ρ : Env} {P : D → Env → Prop} : uTell O idx i g a ρ P = (muSt O ρ[i]? (fun _ _ => True) ∧ a ρ fun ds ρ1 => muSt O ρ1[i]? fun s _ => g s ds fun s' => ∀ fp', P (.tup [.str (errName idx), .int 0]) (ρ1.set i (.mu (O.mu s') fp'))) := rfl
theorem e_tellU {idx : Nat} {g : List D → Prop} {a : UA} {ρ : Env} {P : D → Env → Prop} : uTellU idx g a ρ P = a ρ fun ds ρ1 => g ds ∧ P (.tup [.str (errName idx), .int 0]) ρ1 := rfl
section
variable {B : Bs} {σ : L2.St} {H F H1 F1 H' : Hp} {ρ ρ1 : Env} {CT : Addr} {cs : Nat → Addr} {idx : Nat} {A : TA} {U : UA}
theorem Kx.lam (R : RelF B H F σ ρ) (e : ExtN H H1) (h : ∀ x o, H x = some o → (∀ ps, o ≠ .tbl ps) → F x = none → F1 x = none) : Kx B σ H F ρ H1 F1 ρ :=
  ⟨fun x o _ _ t h => e x o h t, fun x _ s => s.imp fun o h => ⟨e x o h.1 h.2, h.2⟩, fun _ l h => ⟨l, h⟩, fun x s f _ _ => s.elim fun o q => h x o q.1 q.2 f, fun _ _ h => h⟩
end
def uDropApp (a b : UE) : US := fun P ρ => a ρ fun d ρ1 => match d with | .lst l => b ρ1 fun _ ρ2 => l.length < 1000000 ∧ P.nx ρ2 | _ => False
section
variable {B : Bs} {ta tb : TE} {ua ub : UE}
end
theorem e_dropApp {a b : UE} {P : UEnds} {ρ : Env} : uDropApp a b P ρ = a ρ fun d ρ1 => match d with | .lst l => b ρ1 fun _ ρ2 => l.length < 1000000 ∧ P.nx ρ2 | _ => False := rfl
theorem e_par_ov {P : UEnds} {ρ : Env} {a : UE} {i j : Nat} : uPar_ov i j a P ρ = a ρ fun d ρ1 => P.nx ((ρ1.set i (.own [])).set j (.val d)) := rfl
def spLawT (K : PySem.W.Frag) (T : List (Addr × Str)) : Sp := fun vs H Q E => spLaw K vs H Q E ∧ Tabs T H
def gSeeX : UMX JV := fun s ds PX => ∃ t b, ds = [.int t, .bl b] ∧ 0 ≤ t ∧ t ≤ 1000000000000000000 ∧ keepJ s t b = [] ∧ s.kept.length ≤ 1000 ∧ PX s
end TkL



namespace TkL
open PySem PySem.Spec PySem.Calls PyProof.Rows L2 Tk
section
variable (K : PySem.W.Frag) (C : Addr) (CJ : Addr) (CR : Addr) (cls : Addr) (E : XK)
end
end TkL


namespace TkL
open PySem PySem.Spec PySem.Calls PyProof.Rows L2 Tk
end TkL


namespace TkL
open PySem PySem.Spec PySem.Calls PyProof.Rows L2 Tk LamX
structure Lm where
  params : Arguments
  body : Expr
  scope : Scope
  dft : Bool
def LmO (q : Str) (m : Lm) (cl : List (Str × Addr)) (dV : Value) (c' f : Addr) : HO := .ext fun h => ∃ pm doc ctv, h.get? f = some (PySem.W.kdv_obj "<lambda>" q m.params (.expr m.body) m.scope cl dV doc pm c' ctv)
def DfV (H : Hp) (b : Bool) (dV : Value) : Prop := if b = true then ∃ t, dV = .ref t ∧ H t = some (.tup [.int 0]) else dV = .none
def Rdy (q : Str) (m : Lm) (cl : List (Str × Addr)) (H : Hp) (f : Addr) : Prop := ∃ dV c', H f = some (LmO q m cl dV c' f) ∧ H c' = some (CodeO c' q) ∧ DfV H m.dft dV
theorem DfV.ext {H H' : Hp} {b : Bool} {dV : Value} (h : DfV H b dV) (e : ∀ t, H t = some (.tup [.int 0]) → H' t = some (.tup [.int 0])) : DfV H' b dV := by
  unfold DfV at h ⊢
  split at h
  · rename_i c
    rw [if_pos c]
    obtain ⟨t, h1, h2⟩ := h
    exact ⟨t, h1, e t h2⟩
  · rename_i c
    rw [if_neg c]; exact h
theorem Rdy.ext {q : Str} {m : Lm} {cl : List (Str × Addr)} {H H' : Hp} {f : Addr} (h : Rdy q m cl H f) (e : ExtN H H') : Rdy q m cl H' f := by
  obtain ⟨dV, c', h1, h2, h3⟩ := h
  exact ⟨dV, c', e _ _ h1 (fun ps z => by unfold LmO at z; cases z), e _ _ h2 codeO_ne, h3.ext fun t ht => e _ _ ht fun _ z => nomatch z⟩
def tLm (T : List (Addr × Str)) (R : Hp → Addr → Prop) : TE := fun σ H Q => Tabs T H ∧ ∀ f H1, ExtN H H1 → Tabs T H1 → R H1 f → H f = none → Q (.ref f) H1
structure LmS (N : List Str) (sc scope : Scope) : Prop where
  kind : scope.kind = .function
  co : scope.isCoroutine = false
  gen : scope.isGenerator = false
  noc : ∀ y ∈ scope.names, y.2 ≠ .cell
  loc : ∀ y ∈ scope.names, y.2 = .local → y.1 ∉ N
  free : ∀ y ∈ scope.names, y.2 = .free → sc.names.lookup y.1 = some .cell ∨ sc.names.lookup y.1 = some .free
def lmSB (N : List Str) (sc scope : Scope) : Bool :=
  decide (scope.kind = .function) && !scope.isCoroutine && !scope.isGenerator && scope.names.all fun y => !decide (y.2 = .cell) && (!decide (y.2 = .local) || !decide (y.1 ∈ N)) && (!decide (y.2 = .free) || decide (sc.names.lookup y.1 = some .cell) || decide (sc.names.lookup y.1 = some .free))
theorem lmS_by {N : List Str} {sc scope : Scope} (h : lmSB N sc scope = true) : LmS N sc scope := by
  unfold lmSB at h
  simp only [Bool.and_eq_true, Bool.or_eq_true, Bool.not_eq_true', decide_eq_true_eq, decide_eq_false_iff_not, List.all_eq_true] at h
  obtain ⟨⟨⟨h1, h2⟩, h3⟩, h4⟩ := h
  refine ⟨h1, h2, h3, fun y hy => (h4 y hy).1.1, fun y hy e => ((h4 y hy).1.2).resolve_left fun n => n e, fun y hy e => ?_⟩
  rcases (h4 y hy).2 with (z | z) | z
  · exact (z e).elim
  · exact .inl z
  · exact .inr z
section
variable {X : Cx} {pins : List (Addr × Obj)} {σ : L2.St} {H : Hp} {s : Shared}
theorem LmS.has {N : List Str} {scope : Scope} (L : LmS N X.env.scope scope) (ok : X.Ok) (y : Str × NameKind) (hy : y ∈ scope.names) (e : y.2 = .free) : ∃ c, X.env.cells.lookup y.1 = some c := ok.has _ (L.free y hy e)
theorem lmO_new {q : Str} {m : Lm} {cl : List (Str × Addr)} {dV doc pm ctv : Value} {c' : Addr} {t' : Nat} (I : Inv X pins σ H s) :
    Inv X pins σ (upd H s.heap.objs.size (LmO q m cl dV c' s.heap.objs.size)) { s with heap := s.heap.push (PySem.W.kdv_obj "<lambda>" q m.params (.expr m.body) m.scope cl dV doc pm c' ctv), toks := t' } :=
  I.laid (fun b u e => Heap.get?_push_of_some _ e) (Nat.le_refl _) ⟨⟨pm, doc, ctv, Heap.get?_push_size _ rfl⟩, ⟨_, Heap.get?_push_size _ rfl⟩, fun h1 h2 ⟨a, b, c, e⟩ st => ⟨a, b, c, st _ e⟩⟩
theorem mk_tail {T : List (Addr × Str)} {c P : Addr} {m : Lm} {pos : Pos} {n : Nat} {dV : Value} {E : Value → Shared → Prop} {Q : Value → Shared → Prop} (I : Inv X pins σ H s) (TB : TabB X.base X.mg c P) (hcode : X.env.code = .ref c)
    (hm : (P, X.env.qual ++ "<lambda>") ∈ T) (hu : ∀ p ∈ T, p.1 = P → p.2 = X.env.qual ++ "<lambda>") (hT : Tabs T H) (hfree : ∀ y ∈ m.scope.names, y.2 = .free → ∃ c, X.env.cells.lookup y.1 = some c) (hd : DfV H m.dft dV)
    (h : ∀ (f : Addr) (H1 : Hp) (s' : Shared), Inv X pins σ H1 s' → ExtN H H1 → Tabs T H1 → Rdy (X.env.qual ++ "<lambda>") m (cloFrom X.env.cells m.scope.names []) H1 f → H f = none → Q (.ref f) s') :
    wpAny (model X.prog X.w) X.A (makeTail "<lambda>" (X.env.qual ++ "<lambda>") m.params (.expr m.body) m.scope X.env dV .none none pos n) Q E s := by
  obtain ⟨ps, hP, ht, ha⟩ := hT _ hm
  have bP : s.heap.BuiltinsAt X.mg P := TB.bm.keeps I.bk
  have hP' : s.heap.get? P = some { cls := .none, data := .fields ps } := I.hok P _ hP
  have hd1 : ∀ {H1 : Hp}, ExtN H H1 → DfV H1 m.dft dV := fun e => hd.ext fun t z => e _ _ z fun _ y => nomatch y
  cases hc : codeAmong pos ps.toList with
  | none =>
    refine PySem.W.kdv_makeTail (mg := X.mg) (c := c) (P := P) (ps := ps) (closure_ok hfree) I.ok.glob (I.mod.glob.keeps I.bk) hcode (TB.code.keeps I.bk) hP' ht hc TB.gP bP fun c' ctv doc h' tk hx hge hlt hrec htb => ?_
    obtain ⟨c2, oc, vs, t, e2, hoc, hdd, hv⟩ := hrec
    cases e2
    have nC : H c' = none := I.hok.fresh hge
    have I1 := inv_table (t' := tk) (more := #[rawInt pos.line, rawInt pos.col, .ref c']) (h' := h') (q := X.env.qual ++ "<lambda>") I hP (fun b o hb e => hx b o hb e) htb hge ⟨oc, vs, t, hoc, hdd, hv⟩
    have I2 := lmO_new (q := X.env.qual ++ "<lambda>") (m := m) (cl := cloFrom X.env.cells m.scope.names []) (dV := dV) (doc := doc) (pm := (X.mg "__name__").getD .none) (ctv := ctv) (c' := c') (t' := tk) I1
    have hsz : s.heap.objs.size ≤ h'.objs.size := Nat.le_trans hge (Nat.le_of_lt hlt)
    have nF : H h'.objs.size = none := I.hok.fresh hsz
    have n1 : h'.objs.size ≠ c' := Nat.ne_of_gt hlt
    have n2 : h'.objs.size ≠ P := Nat.ne_of_gt (Nat.lt_of_lt_of_le (Heap.lt_size hP') hsz)
    have hE : ExtN H (upd (upd (upd H P (.tbl (ps ++ #[rawInt pos.line, rawInt pos.col, .ref c']))) c' (CodeO c' (X.env.qual ++ "<lambda>"))) h'.objs.size (LmO (X.env.qual ++ "<lambda>") m (cloFrom X.env.cells m.scope.names []) dV c' h'.objs.size)) := fun b o e k => by
      rw [upd_ne (ne_of_none e nF), upd_ne (ne_of_none e nC), upd_ne fun z => k ps (Option.some.inj (e.symm.trans (by rw [z]; exact hP)))]
      exact e
    have atc : upd (upd (upd H P (.tbl (ps ++ #[rawInt pos.line, rawInt pos.col, .ref c']))) c' (CodeO c' (X.env.qual ++ "<lambda>"))) h'.objs.size (LmO (X.env.qual ++ "<lambda>") m (cloFrom X.env.cells m.scope.names []) dV c' h'.objs.size) c' = some (CodeO c' (X.env.qual ++ "<lambda>")) := by rw [upd_ne n1.symm, upd_same]
    refine h h'.objs.size _ _ I2 hE (fun p hp => ?_) ⟨dV, c', upd_same, atc, hd1 hE⟩ nF
    by_cases hb : p.1 = P
    · rw [hu p hp hb, hb]
      have eL : (ps ++ #[rawInt pos.line, rawInt pos.col, .ref c']).toList = ps.toList ++ [rawInt pos.line, rawInt pos.col, .ref c'] := by simp
      refine ⟨_, by rw [upd_ne n2.symm, upd_ne (ne_of_none hP nC), upd_same], by rw [eL]; exact PySem.TriplesOk_snoc _ _ _ _ ht, fun p' cv hcv => ?_⟩
      rw [eL] at hcv
      rcases among_app _ ht hcv with z | z
      · obtain ⟨c0, e1, e2⟩ := ha p' cv z
        exact ⟨c0, e1, hE _ _ e2 codeO_ne⟩
      · exact ⟨c', z, atc⟩
    · obtain ⟨ps', a1, a2, a3⟩ := hT p hp
      refine ⟨ps', by rw [upd_ne (ne_of_none a1 nF), upd_ne (ne_of_none a1 nC), upd_ne hb]; exact a1, a2, fun p' cv hcv => ?_⟩
      obtain ⟨c0, e1, e2⟩ := a3 p' cv hcv
      exact ⟨c0, e1, hE _ _ e2 codeO_ne⟩
  | some cv =>
    obtain ⟨c', e, hco⟩ := ha pos cv hc
    subst e
    refine PySem.W.kdv_makeTailHit (mg := X.mg) (c := c) (P := P) (ps := ps) (closure_ok hfree) I.ok.glob (I.mod.glob.keeps I.bk) hcode (TB.code.keeps I.bk) hP' ht hc bP fun ctv doc h' tk hx hsz => ?_
    have I1 : Inv X pins σ H { s with heap := h', toks := tk } := I.kept fun b o e => hx b o e
    have I2 := lmO_new (q := X.env.qual ++ "<lambda>") (m := m) (cl := cloFrom X.env.cells m.scope.names []) (dV := dV) (doc := doc) (pm := (X.mg "__name__").getD .none) (ctv := ctv) (c' := c') (t' := tk) I1
    have nF : H h'.objs.size = none := I.hok.fresh hsz
    have hE : ExtN H (upd H h'.objs.size (LmO (X.env.qual ++ "<lambda>") m (cloFrom X.env.cells m.scope.names []) dV c' h'.objs.size)) := fun b o e _ => by
      rw [upd_ne (ne_of_none e nF)]; exact e
    refine h h'.objs.size _ _ I2 hE (fun p hp => (hT p hp).ext fun b o z => ?_) ⟨dV, c', upd_same, by rw [upd_ne (ne_of_none hco nF)]; exact hco, hd1 hE⟩ nF
    rw [upd_ne (ne_of_none z nF)]; exact z
theorem pe_lm {T : List (Addr × Str)} {c P : Addr} {m : Lm} {N : List Str} {pos : Pos} (TB : TabB X.base X.mg c P) (hcode : X.env.code = .ref c) (hm : (P, X.env.qual ++ "<lambda>") ∈ T) (hu : ∀ p ∈ T, p.1 = P → p.2 = X.env.qual ++ "<lambda>")
    (L : LmS N X.env.scope m.scope) (hd0 : m.dft = false) (hdef : defaultsOf m.params X.env = ([], [])) : PE X (.Lambda m.params m.body m.scope pos) (tLm T (Rdy (X.env.qual ++ "<lambda>") m (cloFrom X.env.cells m.scope.names []))) := by
  refine ⟨fun pins s σ H Q I h => ?_⟩
  obtain ⟨hT, h⟩ := h
  refine PySem.W.kla_eval hdef ?_
  rw [makeFunction_eq]
  simp only [List.zip_nil_right, List.filterMap_nil, List.isEmpty_nil, if_true, pure_bind]
  refine mk_tail (dV := .none) I TB hcode hm hu hT (fun y hy e => L.has I.ok y hy e) (by unfold DfV; rw [hd0]; rfl) fun f H1 s' I1 eN T1 R hf => ?_
  exact ⟨.ref f, H1, I1, rfl, h f H1 eN T1 R hf⟩
theorem pe_lmd {T : List (Addr × Str)} {c P : Addr} {m : Lm} {N : List Str} {pos p0 : Pos} {j : Nat} (TB : TabB X.base X.mg c P) (hcode : X.env.code = .ref c) (hm : (P, X.env.qual ++ "<lambda>") ∈ T) (hu : ∀ p ∈ T, p.1 = P → p.2 = X.env.qual ++ "<lambda>")
    (L : LmS N X.env.scope m.scope) (hd0 : m.dft = true) (hdef : m.params.defaults = [.Constant (.int 0) j p0]) (hk : m.params.kw_defaults = []) : PE X (.Lambda m.params m.body m.scope pos) (tLm T (Rdy (X.env.qual ++ "<lambda>") m (cloFrom X.env.cells m.scope.names []))) := by
  refine ⟨fun pins s σ H Q I h => ?_⟩
  obtain ⟨hT, h⟩ := h
  refine PySem.W.kdv_lam (by rw [hdef]; rfl) hk ?_
  rw [hdef]
  refine PySem.W.kdv_all1 (thn ((pe_int (i := 0) (j := j) (pos := p0)).run pins s σ H (fun v H1 => v = .int 0 ∧ H1 = H) I ⟨rfl, rfl⟩) fun u s1 ⟨v, H1, I1, r1, q1⟩ => PySem.W.kdv_all0 ?_)
  obtain ⟨ev, eH⟩ := q1
  subst ev eH
  rw [makeFunction_eq]
  simp only [List.zip_nil_right, List.filterMap_nil, List.isEmpty_nil, if_true, pure_bind, List.isEmpty_cons, Bool.false_eq_true, if_false]
  have nF : H1 s1.heap.objs.size = none := I1.hok.fresh (Nat.le_refl _)
  refine wpAny_bind (wpAny_newTextTuple ?_)
  have I2 : Inv X pins σ (upd H1 s1.heap.objs.size (.tup [.int 0])) { s1 with heap := s1.heap.push { cls := .type "tuple", data := .seq [u].toArray } } :=
    I1.laid (t' := s1.toks) (fun b o e => Heap.get?_push_of_some _ e) (Nat.le_refl _) ⟨by decide, [u], .cons r1 .nil, ⟨_, Heap.get?_push_size _ rfl, rfl, _, rfl⟩⟩
  have e0 : ∀ b o, H1 b = some o → upd H1 s1.heap.objs.size (.tup [.int 0]) b = some o := fun b o e => by rw [upd_ne (ne_of_none e nF)]; exact e
  refine mk_tail (dV := .ref s1.heap.objs.size) I2 TB hcode hm hu (hT.ext e0) (fun y hy e => L.has I.ok y hy e) (by unfold DfV; rw [hd0, if_pos rfl]; exact ⟨_, rfl, upd_same⟩) fun f H2 s' I3 eN T2 R hf => ?_
  refine ⟨.ref f, H2, I3, rfl, h f H2 ((ExtN.of e0).trans eN) T2 R ?_⟩
  by_cases c : f = s1.heap.objs.size
  · rw [c]; exact nF
  · rw [upd_ne c] at hf; exact hf
end
end TkL


namespace TkL
open PySem PySem.Spec PySem.Calls PyProof.Rows L2 Tk LamX
def froz (cs : List (Addr × Obj)) (G : Hp) : Hp := fun b => match cs.lookup b with | some o => some (.frz o (.own b)) | none => G b
def unfz (cs : List (Addr × Obj)) (H : Hp) : Hp := fun b => match cs.lookup b with | some _ => none | none => H b
def Clls (cs : List (Addr × Obj)) (H : Hp) : Prop := ∀ b o, cs.lookup b = some o → H b = some (.frz o (.own b))
section
variable {cs : List (Addr × Obj)} {G H H' : Hp} {b : Addr} {o : Obj} {u : HO}
theorem froz_in (h : cs.lookup b = some o) : froz cs G b = some (.frz o (.own b)) := by unfold froz; rw [h]
theorem froz_out (h : cs.lookup b = none) : froz cs G b = G b := by unfold froz; rw [h]
theorem unfz_in (h : cs.lookup b = some o) : unfz cs H b = none := by unfold unfz; rw [h]
theorem unfz_out (h : cs.lookup b = none) : unfz cs H b = H b := by unfold unfz; rw [h]
theorem froz_cl : Clls cs (froz cs G) := fun _ _ h => froz_in h
theorem Clls.out (c : Clls cs H) (h : H b = some u) (n : ∀ o, u ≠ .frz o (.own b)) : cs.lookup b = none := by
  cases e : cs.lookup b with
  | none => rfl
  | some o => rw [c b o e] at h; exact absurd (Option.some.inj h).symm (n o)
theorem Clls.nn (c : Clls cs H) (h : H b = none) : cs.lookup b = none := by
  cases e : cs.lookup b with
  | none => rfl
  | some o => rw [c b o e] at h; cases h
theorem Clls.unn (c : Clls cs H) (h : H b = none) : unfz cs H b = none := by rw [unfz_out (c.nn h)]; exact h
theorem Clls.uns (c : Clls cs H) (h : H b = some u) (n : ∀ o, u ≠ .frz o (.own b)) : unfz cs H b = some u := by rw [unfz_out (c.out h n)]; exact h
theorem unfz_froz (n : ∀ b o, cs.lookup b = some o → G b = none) : unfz cs (froz cs G) = G := by
  funext b
  cases e : cs.lookup b with
  | none => rw [unfz_out e, froz_out e]
  | some o => rw [unfz_in e, n b o e]
theorem unfz_ex (e : Ex H H') : Ex (unfz cs H) (unfz cs H') := fun x o h => by
  cases c : cs.lookup x with
  | some _ => rw [unfz_in c] at h; cases h
  | none => rw [unfz_out c] at h ⊢; exact e x o h
theorem Clls.ex (c : Clls cs H) (e : Ex H H') : Clls cs H' := fun b o h => e _ _ (c b o h)
variable {P : Program} {w : World} {h h' : Heap}
theorem Clls.hok (c : Clls cs H) (k : HOk P w H h) : HOk P w (unfz cs H) h := fun a o e => by
  have ca : cs.lookup a = none := by
    cases z : cs.lookup a with
    | none => rfl
    | some _ => rw [unfz_in z] at e; cases e
  rw [unfz_out ca] at e
  exact (k a o e).stay (fun _ _ _ q => q) (fun b q => c.uns q fun _ z => nomatch z) fun b xs q => c.uns q fun _ z => nomatch z
theorem Clls.cell (c : Clls cs H) (k : HOk P w H h) (e : cs.lookup b = some o) : h.get? b = some o := (k b _ (c b o e)).1
theorem hok_froz (k : HOk P w G h) (n : ∀ b o, cs.lookup b = some o → G b = none ∧ h.get? b = some o) : HOk P w (froz cs G) h := fun a u e => by
  have back : ∀ b v, G b = some v → froz cs G b = some v := fun b v q => by
    cases z : cs.lookup b with
    | none => rw [froz_out z]; exact q
    | some o => rw [(n b o z).1] at q; cases q
  cases ca : cs.lookup a with
  | none =>
    rw [froz_out ca] at e
    exact (k a u e).stay (fun _ _ _ q => q) (fun b q => back b _ q) fun b xs q => back b _ q
  | some o =>
    rw [froz_in ca] at e
    cases e
    exact ⟨(n a o ca).2, o, (n a o ca).2⟩
theorem un_froz {fs : List Addr} (c : Clls cs H) (k : HOk P w H h) (nf : ∀ b ∈ fs, H b = none) (u : Un fs [] (unfz cs H) G h h') : Un fs [] H (froz cs G) h h' ∧ ∀ b o, cs.lookup b = some o → G b = none ∧ h'.get? b = some o := by
  have ce : ∀ b o, cs.lookup b = some o → G b = none ∧ h'.get? b = some o := fun b o e => by
    have nb : b ∉ fs := fun z => by have := nf b z; rw [c b o e] at this; cases this
    have hb := c.cell k e
    exact ⟨u.free b o hb (unfz_in e) (by simp), u.keep b o hb (unfz_in e) nb (by simp)⟩
  refine ⟨⟨fun b o e n hb hx => u.keep b o e (c.unn n) hb hx, fun b o e n hb hx => u.slot b o e (c.unn n) hb hx, fun b o e n hx => ?_, u.there, fun b xs e => ?_, fun b o v e => ?_, fun b ps e => ?_⟩, ce⟩
  · rw [froz_out (c.nn n)]; exact u.free b o e (c.unn n) hx
  · rw [froz_out (c.out e fun _ z => nomatch z)]; exact u.tups b xs (c.uns e fun _ z => nomatch z)
  · cases z : cs.lookup b with
    | none => rw [froz_out z]; exact u.frzs b o v (by rw [unfz_out z]; exact e)
    | some o' =>
      rw [froz_in z]
      rw [c b o' z] at e
      exact e
  · obtain ⟨m, q⟩ := u.tbls b ps (c.uns e fun _ z => nomatch z)
    exact ⟨m, by rw [froz_out (c.out e fun _ z => nomatch z)]; exact q⟩
theorem ub_froz {fs : List Addr} {B : Heap} (c : Clls cs H) (k : HOk P w H h) (nf : ∀ b ∈ fs, H b = none) (u : UB fs (unfz cs H) G h B h') : UB fs H (froz cs G) h B h' ∧ ∀ b o, cs.lookup b = some o → G b = none ∧ B.get? b = some o := by
  have ce : ∀ b o, cs.lookup b = some o → G b = none ∧ B.get? b = some o := fun b o e => by
    have nb : b ∉ fs := fun z => by have := nf b z; rw [c b o e] at this; cases this
    have hb := c.cell k e
    exact ⟨u.free b o hb (unfz_in e), u.keep b o hb (unfz_in e) nb⟩
  refine ⟨⟨fun b o e n hb => u.keep b o e (c.unn n) hb, u.slot, fun b o e n => ?_, u.there, fun b xs e => ?_, fun b o v e => ?_, fun b ps e => ?_⟩, ce⟩
  · rw [froz_out (c.nn n)]; exact u.free b o e (c.unn n)
  · rw [froz_out (c.out e fun _ z => nomatch z)]; exact u.tups b xs (c.uns e fun _ z => nomatch z)
  · cases z : cs.lookup b with
    | none => rw [froz_out z]; exact u.frzs b o v (by rw [unfz_out z]; exact e)
    | some o' =>
      rw [froz_in z]
      rw [c b o' z] at e
      exact e
  · obtain ⟨m, q⟩ := u.tbls b ps (c.uns e fun _ z => nomatch z)
    exact ⟨m, by rw [froz_out (c.out e fun _ z => nomatch z)]; exact q⟩
end
section
variable {P : Program} {w : World} {K : PySem.W.Frag} {mg : Str → Option Value} {base : Heap} {A : Around} {outer : List PySem.Env} {s s' : Shared} {H G : Hp} {cs : List (Addr × Obj)} {Q : VK} {E : XK} {u : Value}
theorem env0_unfz (e : Env0 P w K mg base A outer s H) (c : Clls cs H) : Env0 P w K mg base A outer s (unfz cs H) :=
  ⟨e.frames, e.mod, fun b o q => ⟨(e.bs b o q).1, c.unn (e.bs b o q).2⟩, e.bsz, e.funs, fun b hb => c.unn (e.frf b hb), c.hok e.hok, e.bare⟩
def Unc (cs : List (Addr × Obj)) (H : Hp) : Prop := ∀ b o, cs.lookup b = some o → H b = none
theorem ce_froz (e : Env0 P w K mg base A outer s H) (c : Clls cs H) (h : CE outer P w (unfz cs H) s (fun v H' => Unc cs H' → Q v (froz cs H')) u s') : CE outer P w H s Q u s' := by
  obtain ⟨v, H', os, bare, un, hok, r, q⟩ := h
  obtain ⟨un', ce⟩ := un_froz c e.hok e.frf un
  exact ⟨v, _, os, bare, un', hok_froz hok ce, r, q fun b o e => (ce b o e).1⟩
theorem cx_froz (e : Env0 P w K mg base A outer s H) (c : Clls cs H) (h : L2.CX P w outer (unfz cs H) s (fun cls d H' => Unc cs H' → E cls d (froz cs H')) u s') : L2.CX P w outer H s E u s' := by
  obtain ⟨a, B, H', cls, d, e1, fl, hok, ub, na, os, ag, hE⟩ := h
  obtain ⟨ub', ce⟩ := ub_froz c e.hok e.frf ub
  refine ⟨a, B, _, cls, d, e1, fl, hok_froz hok ce, ub', ?_, os, ag, hE fun b o e => (ce b o e).1⟩
  cases z : cs.lookup a with
  | none => rw [froz_out z]; exact na
  | some o =>
    have h1 := (ce a o z).2
    have h2 := fl.2.1
    rw [h1] at h2; cases h2
end
def ThkC (P : Program) (w : World) (K : PySem.W.Frag) (mg : Str → Option Value) (base : Heap) (k : Nat) (f : Addr) (tl : XK → Hp → VK → Prop) : Prop :=
  ∀ (A : Around) (outer : List PySem.Env) (s : Shared) (H : Hp) (Q : VK) (E : XK), Room k A → Env0 P w K mg base A outer s H → tl E H Q → codeAny (model P w) A (.call (.ref f) ⟨[], []⟩) (CR (L2.CX P w) outer P w H s Q E) s
structure CelV (X : Cx) (cs : List (Addr × Obj)) (σ : L2.St) : Prop where
  cell : ∀ y c, X.env.cells.lookup y = some c → ∃ o v, cs.lookup c = some o ∧ o.data = .cell v
  val : ∀ (i : Nat) x v c, X.N[i]? = some x → σ[i]? = some (some v) → X.env.cells.lookup x = some c → ∃ o u, cs.lookup c = some o ∧ o.data = .cell (some u) ∧ RelV v u
def LmB (m : Lm) (q : Str) : Prop := ∀ (cl : List (Str × Addr)) (doc pm cdv ctv : Value),
  if m.dft = true then ∃ nm : Str, m.scope.names.lookup nm = some .local ∧ ∀ (T : Addr) (u : Value), ∃ k : Option (Array Value) → Sem (List (Str × Value)), bindArgs (PySem.W.kdv_fn "<lambda>" q m.params (.expr m.body) m.scope cl (.ref T) doc pm cdv ctv) ⟨[], []⟩ = seqItems? (.ref T) >>= k ∧ k (some #[u]) = pure [(nm, u)]
  else bindArgs (PySem.W.kdv_fn "<lambda>" q m.params (.expr m.body) m.scope cl .none doc pm cdv ctv) ⟨[], []⟩ = pure []
section
variable {X : Cx} {m : Lm} {cs : List (Addr × Obj)} {σ : L2.St} {k : Nat} {tb : XK → TE}
theorem cl_lookup {sc : Scope} {y : Str} {c : Addr} {cells : List (Str × Addr)} (hf : ∀ y ∈ sc.names, y.2 = .free → ∃ c, cells.lookup y.1 = some c) (e : (cloFrom cells sc.names []).lookup y = some c) : cells.lookup y = some c := by
  rcases cloFrom_mem (PySem.mem_of_lookup e) with hm | ⟨h1, h2⟩
  · cases hm
  · obtain ⟨c1, hc⟩ := hf _ h1 rfl
    have hc : cells.lookup y = some c1 := hc
    rw [hc] at h2
    rw [hc, h2]; rfl
theorem lm_inv {A : Around} {outer : List PySem.Env} {s1 : Shared} {G : Hp} {E : XK} {f c' : Addr} {h₁ : Heap} {tk : Nat} {bd : List (Str × Value)} (ok : X.Ok) (hl : σ.length = X.N.length) (L : LmS X.N X.env.scope m.scope) (V : CelV X cs σ) (hG : ∀ b o, cs.lookup b = some o → G b = none) (hC : ∀ b o, cs.lookup b = some o → s1.heap.get? b = some o)
    (e0 : Env0 X.prog X.w X.K X.mg X.base A outer s1 G) (hd : A.handled = none) (hns : h₁.Ns s1.heap.objs.size fun y => bd.reverse.lookup y) (kp : ∀ b o, s1.heap.get? b = some o → h₁.get? b = some o) :
    Inv (lamCx X A outer s1 G E m.scope f c') [] σ G { s1 with heap := h₁, toks := tk } := by
  have hfree : ∀ y ∈ m.scope.names, y.2 = .free → ∃ c, X.env.cells.lookup y.1 = some c := fun y hy e => L.has ok y hy e
  have cm : ∀ {y c}, (cloFrom X.env.cells m.scope.names []).lookup y = some c → X.env.cells.lookup y = some c := fun e => cl_lookup hfree e
  have look : ∀ {y}, m.scope.names.lookup y = some .free → ∃ c, (cloFrom X.env.cells m.scope.names []).lookup y = some c := fun {y} q => by
    have hy : (y, NameKind.free) ∈ m.scope.names := PySem.mem_of_lookup q
    exact mem_lookup (cloFrom_has (cells := X.env.cells) (acc := []) hy)
  have noA : ∀ b : Addr, b ∉ (lamCx X A outer s1 G E m.scope f c').ex := fun b z => absurd (show b ∈ ([] : List Addr) from z) (by simp)
  refine ⟨⟨e0.mod, L.kind, rfl, rfl, Nat.le_refl _, fun y z c e1 e2 => ok.inj y z c (cm e1) (cm e2), fun y hy => ?_, fun y c z _ => ?_, fun _ => hd, Around.frames_deeper e0.frames, .inr ⟨rfl, rfl⟩, fun b z => absurd z (noA b), e0.bs, e0.bsz, fun b _ _ => noA b, fun b z => absurd z (noA b), e0.funs, e0.frf⟩,
    rfl, e0.bare, Un.kept kp, ⟨_, hns, fun i y v e1 e2 e3 => ?_⟩, fun y c e => ?_, e0.hok.fresh (Nat.le_refl _), fun y c e => ?_, fun q hq => absurd (show q ∈ ([] : List (Addr × Obj)) ++ [] from hq) (by simp), e0.hok.kept kp, hl⟩
  · have hy : m.scope.names.lookup y = some .cell ∨ m.scope.names.lookup y = some .free := hy
    rcases hy with hy | hy
    · exact absurd rfl (L.noc _ (PySem.mem_of_lookup hy))
    · exact look hy
  · have z : false = true := z
    cases z
  · have e3 : Vis m.scope y := e3
    rcases e3 with q | q | q
    · exact absurd (List.mem_of_getElem? e1) (L.loc _ (PySem.mem_of_lookup q) rfl)
    · exact absurd rfl (L.noc _ (PySem.mem_of_lookup q))
    · obtain ⟨c2, h2⟩ := look q
      obtain ⟨o, u, h3, h4, h5⟩ := V.val i y v c2 e1 e2 (cm h2)
      exact ⟨u, h5, .inr ⟨.inr q, c2, h2, o, kp _ _ (hC c2 o h3), h4⟩⟩
  · obtain ⟨o, v, h1, h2⟩ := V.cell y c (cm e)
    exact ⟨v, o, kp _ _ (hC c o h1), h2⟩
  · obtain ⟨o, v, h1, h2⟩ := V.cell y c (cm e)
    exact hG c o h1
def tlLm (K : PySem.W.Frag) (q : Str) (m : Lm) (cl : List (Str × Addr)) (cs : List (Addr × Obj)) (σ : L2.St) (tb : XK → TE) (f : Addr) : XK → Hp → VK → Prop := fun E H Q =>
  Rdy q m cl H f ∧ Clls cs H ∧ tb (fun cls d H' => Unc cs H' → E cls d (froz cs H')) σ (unfz cs H) fun v H' => Unc cs H' → Q v (froz cs H')
theorem lm_run {f : Addr} (ok : X.Ok) (hl : σ.length = X.N.length) (L : LmS X.N X.env.scope m.scope) (V : CelV X cs σ) (hb : LmB m (X.env.qual ++ "<lambda>"))
    (hbody : ∀ (A : Around) (outer : List PySem.Env) (s : Shared) (H : Hp) (E : XK) (f c' : Addr), Room k (A.deeper (lamEnv X m.scope s.heap.objs.size f c')) → PE (lamCx X A outer s H E m.scope f c') m.body (tb E)) :
    ThkC X.prog X.w X.K X.mg X.base (k + 1) f (tlLm X.K (X.env.qual ++ "<lambda>") m (cloFrom X.env.cells m.scope.names []) cs σ tb f) := by
  rintro A outer s H Q E hr e0 ⟨⟨dV, c', h1, h2, h3⟩, hcl, ht⟩
  obtain ⟨⟨pm, doc, ctv, hf⟩, _, _⟩ := e0.hok f _ h1
  obtain ⟨⟨oc, vs, t, hoc, hdc, hvc⟩, _, _⟩ := e0.hok c' _ h2
  have e1 := env0_unfz e0 hcl
  have lim : s.heap.NoLimit := e0.mod.nolimit.keeps fun b o e => (e0.bs b o e).1
  have go : ∀ bd : List (Str × Value), (∀ y ∈ bd, m.scope.names.lookup y.1 = some .local) → wpAny (model X.prog X.w) A.in1 (newFunctionEnv m.scope mainGlobals (cloFrom X.env.cells m.scope.names []) bd ((X.env.qual ++ "<lambda>") ++ ".<locals>.") (some f) (.ref c') none builtinsNs)
      (fun env s₂ => s₂.heap.NoLimit ∧ codeAny (model X.prog X.w) A (.expr m.body env) (CR (L2.CX X.prog X.w) outer X.prog X.w H s Q E) s₂) (fun e s' => CR (L2.CX X.prog X.w) outer X.prog X.w H s Q E (.error e) s') s := fun bd hbd => by
    refine wpAny_newFunctionEnv L.noc hbd (fun h₁ hns hsb => ⟨lim.fresh _ hsb, ?_⟩) L.kind
    show codeAny _ _ (.expr m.body (lamEnv X m.scope s.heap.objs.size f c')) _ _
    have kp : ∀ b o, s.heap.get? b = some o → h₁.get? b = some o := fun b o e => hsb.extBut b o (Nat.ne_of_lt (Heap.lt_size e)) (Heap.get?_push_of_some _ e)
    have J := lm_inv (m := m) (E := fun cls d H' => Unc cs H' → E cls d (froz cs H')) (f := f) (c' := c') (tk := s.toks + bd.length) ok hl L V (fun b o e => unfz_in e) (fun b o e => hcl.cell e0.hok e) e1 hr.hd hns kp
    refine PySem.W.kla_codeExpr (wpAny_mono ((hbody A outer s (unfz cs H) _ f c' (hr.deeper _)).run [] _ σ _ _ J ht) (fun v s' hq => ?_) fun e s' hq => ?_)
    · obtain ⟨w', H', J', rv, q⟩ := hq
      exact ce_froz e0 hcl ⟨w', H', J'.os, J'.bare, J'.base, J'.hok, rv, q⟩
    · exact wpAny_mono hq (fun _ s'' z => cx_froz e0 hcl z) fun _ s'' z => cx_froz e0 hcl z
  refine PySem.W.kla_callFunE hr.depth hf rfl L.co L.gen rfl ⟨c', oc, vs, t, rfl, hoc, hdc, hvc⟩ ?_
  have hb' := hb (cloFrom X.env.cells m.scope.names []) doc pm (.ref c') ctv
  unfold DfV at h3
  split at hb'
  · rename_i cd
    rw [if_pos cd] at h3
    obtain ⟨nm, g1, g2⟩ := hb'
    obtain ⟨T, rfl, hT⟩ := h3
    obtain ⟨_, its, hv, o, ho, hc, n, hdd⟩ := e0.hok T _ hT
    cases hv with
    | cons r hv =>
      cases hv
      obtain ⟨kk, g3, g4⟩ := g2 T _
      refine BindsTo.of_defaults (binds := [(nm, _)]) rfl ho hdd g3 g4 _ _ _ _ ?_
      exact go _ fun y hy => by rw [List.mem_singleton.mp hy]; exact g1
  · rename_i cd
    rw [if_neg cd] at h3
    subst h3
    rw [hb']
    exact wpAny_pure (go [] fun y hy => absurd hy (by simp))
end
end TkL


namespace TkL
open PySem PySem.Spec PySem.Calls PyProof.Rows L2 Tk LamX
structure Thk (P : Program) (w : World) (K : PySem.W.Frag) (mg : Str → Option Value) (base : Heap) (k : Nat) (f : Addr) (tl : XK → Hp → VK → Prop) : Prop where
  run : ThkC P w K mg base k f tl
  is : ∀ E H Q, tl E H Q → ∃ q m cl dV c', H f = some (LmO q m cl dV c' f)
abbrev TcT := Addr → (XK → Hp → VK → Prop) → Prop
def dumX (P : Program) (w : World) (K : PySem.W.Frag) (mg : Str → Option Value) (base : Heap) (A : Around) (outer : List PySem.Env) (s : Shared) (H : Hp) (env : PySem.Env) : Cx :=
  { prog := P, w := w, K := K, mg := mg, base := base, A := A, N := [], s_0 := s, H_0 := H, env := env, outer := outer, stack := outer, ex := [], fn := fun _ => true, calm := true, pn := [], xe := fun _ _ => False }
section
variable {P : Program} {w : World} {K : PySem.W.Frag} {mg : Str → Option Value} {base : Heap} {CT : Addr} {cs : Nat → Addr} {k : Nat}
theorem pe_actV {Z : Cx} {i : Nat} {a : Str} {W : WX} {E : XK} {f : Addr} {tl : XK → Hp → VK → Prop} {p1 p2 : Pos} (T : Thk Z.prog Z.w Z.K Z.mg Z.base k f tl) (hr : Room k Z.A) (tk : Takes Z W) (hW : ∀ cls d σ' H', E cls d H' → W cls d σ' H')
    (hN : Z.N[i]? = some a) (hv : Vis Z.env.scope a) (hd : (a == ("__debug__" : Str)) = false := by decide) (hcd : (a == ("__classdict__" : Str)) = false := by decide) :
    PE Z (.Call (.Name a p1) [] [] p2) (fun σZ HZ Q => σZ[i]? = some (some (.ref f)) ∧ tl E HZ Q) := by
  refine ⟨fun pins s σ H Q I h => ?_⟩
  obtain ⟨hs, ht⟩ := h
  refine wpAny_Call_Name_kw (thn ((pe_var (pos := p1) (i := i) hN hv hd hcd).run pins s σ H (fun v H1 => v = .ref f ∧ H1 = H) I ⟨.ref f, hs, rfl, rfl⟩) fun u s1 ⟨v, H1, I1, r1, q1⟩ => ?_)
  obtain ⟨ev, eH⟩ := q1
  subst ev eH
  obtain rfl : u = Value.ref f := r1
  obtain ⟨q, m, cl, dV, c', hf⟩ := T.is _ _ _ ht
  obtain ⟨⟨pm, doc, ctv, of1⟩, _, _⟩ := I1.hok f _ hf
  refine PySem.W.callWith_F0 ⟨_, _, _, _, of1⟩ ?_
  refine wpAny_call (codeAny_mono (T.run Z.A Z.stack s1 H1 Q E hr I1.env0 ht) fun r s' hq => ?_)
  cases r with
  | error e => exact passes_call tk hW pins σ H1 s1 e s' I1 hq
  | ok fl =>
    cases fl with
    | ret u => exact I1.after hq
    | next => exact False.elim hq
    | brk => exact False.elim hq
    | cont => exact False.elim hq
end
def tAllr (K : PySem.W.Frag) (spE : Sp) : TS := tRet (tOp (rEqD K) (tLc (iList K (tPer 0)) (gName 2) (tTest (tOp (rNeD K) (tDef spE E0 (tCons (tPer 2) tNil)) (tVar 1))) (tPer 2) [2]) (tLst tNil))
end TkL


namespace TkL
open PySem PySem.Spec PySem.Calls PyProof.Rows L2 Tk LamX
section
variable {P : Program} {w : World} {cs : List (Addr × Obj)} {H H' : Hp} {h h' : Heap}
theorem un_unfz {fs : List Addr} (u0 : Unc cs H) (hc : ∀ b o, cs.lookup b = some o → h.get? b = some o) (nf : ∀ b ∈ fs, cs.lookup b = none) (k : HOk P w H' h') (u : Un fs [] (froz cs H) H' h h') : Un fs [] H (unfz cs H') h h' ∧ Clls cs H' := by
  have cl : Clls cs H' := fun b o e => u.frzs b o _ (froz_in e)
  have nn : ∀ b, H b = none → cs.lookup b = none → froz cs H b = none := fun b n e => by rw [froz_out e]; exact n
  have ns : ∀ b v, H b = some v → froz cs H b = some v ∧ cs.lookup b = none := fun b v q => by
    cases z : cs.lookup b with
    | none => exact ⟨by rw [froz_out z]; exact q, rfl⟩
    | some o => rw [u0 b o z] at q; cases q
  refine ⟨⟨fun b o e n hb hx => ?_, fun b o e n hb hx => u.slot b o e (nn b n (nf b hb)) hb hx, fun b o e n hx => ?_, u.there, fun b xs e => ?_, fun b o v e => ?_, fun b ps e => ?_⟩, cl⟩
  · cases z : cs.lookup b with
    | none => exact u.keep b o e (nn b n z) hb hx
    | some o' =>
      have := hc b o' z
      rw [e] at this
      rw [Option.some.inj this]
      exact cl.cell k z
  · cases z : cs.lookup b with
    | none => rw [unfz_out z]; exact u.free b o e (nn b n z) hx
    | some o' => exact unfz_in z
  · obtain ⟨q, z⟩ := ns b _ e
    rw [unfz_out z]; exact u.tups b xs q
  · obtain ⟨q, z⟩ := ns b _ e
    rw [unfz_out z]; exact u.frzs b o v q
  · obtain ⟨q, z⟩ := ns b _ e
    obtain ⟨m, r⟩ := u.tbls b ps q
    exact ⟨m, by rw [unfz_out z]; exact r⟩
end
theorem lookup_memN {β : Type} : ∀ {l : List (Addr × β)} {b : Addr} {o : β}, l.lookup b = some o → (b, o) ∈ l
  | (k, v) :: l, b, o, h => by
    rw [List.lookup_cons] at h
    split at h
    · rename_i q; cases h; rw [beq_iff_eq.mp q]; exact .head _
    · exact .tail _ (lookup_memN h)
theorem mem_lookupN {β : Type} : ∀ {l : List (Addr × β)} {b : Addr} {o : β}, (b, o) ∈ l → ∃ o', l.lookup b = some o'
  | (k, v) :: l, b, o, h => by
    rw [List.lookup_cons]
    split
    · exact ⟨_, rfl⟩
    · rename_i q
      rcases List.mem_cons.mp h with h | h
      · cases h; rw [beq_self_eq_true] at q; cases q
      · exact mem_lookupN h
def celL (X : Cx) (h : Heap) : List (Addr × Obj) := X.env.cells.filterMap fun y => match X.env.cells.lookup y.1 with | some c => (h.get? c).map fun o => (c, o) | none => none
theorem celL_get {X : Cx} {h : Heap} {b : Addr} {o : Obj} (e : (celL X h).lookup b = some o) : h.get? b = some o ∧ ∃ y, X.env.cells.lookup y = some b := by
  have m := lookup_memN e
  obtain ⟨y, hy, q⟩ := List.mem_filterMap.mp m
  cases z : X.env.cells.lookup y.1 with
  | none => rw [z] at q; cases q
  | some c =>
    rw [z] at q
    have q : (h.get? c).map (fun o => (c, o)) = some (b, o) := q
    cases z2 : h.get? c with
    | none => rw [z2] at q; cases q
    | some o' =>
      rw [z2] at q
      cases q
      exact ⟨z2, y.1, z⟩
theorem celL_has {X : Cx} {h : Heap} {y : Str} {c : Addr} {o : Obj} (e : X.env.cells.lookup y = some c) (ho : h.get? c = some o) : (celL X h).lookup c = some o := by
  have m : (c, o) ∈ celL X h := List.mem_filterMap.mpr ⟨(y, c), PySem.mem_of_lookup e, by
    show (match X.env.cells.lookup y with | some c => (h.get? c).map fun o => (c, o) | none => none) = _
    rw [e]
    show (h.get? c).map _ = _
    rw [ho]; rfl⟩
  obtain ⟨o', q⟩ := mem_lookupN m
  have := (celL_get q).1
  rw [ho] at this
  rw [q, Option.some.inj this]
section
variable {X : Cx} {pins : List (Addr × Obj)} {σ : L2.St} {H : Hp} {s : Shared} {CT : Addr} {cs : Nat → Addr}
end
end TkL


namespace TkL
open PySem PySem.Spec PySem.Calls PyProof.Rows L2 Tk LamX
def StR (C : Addr) (RDY : Nat → Hp → Addr → Prop) : Prop := ∀ (j : Nat) (f : Addr) (H H' : Hp), (∀ x o, H x = some o → ¬ Mut C o → H' x = some o) → RDY j H f → RDY j H' f
def muT (RDY : Nat → Hp → Addr → Prop) (l : List (Nat × Addr)) : Mu := ⟨fun K C dO H F p fp => StR C RDY ∧ H p = some (.lst (l.map fun z => .ref z.2)) ∧ (∀ z ∈ l, RDY z.1 F z.2) ∧ fp = [p], fun {K C dO H H' F F' p fp} h keep e => by
  obtain ⟨S, h1, h2, rfl⟩ := h
  exact ⟨S, by rw [keep p (by simp)]; exact h1, fun z hz => S _ _ _ _ (fun x o q _ => e x o q) (h2 z hz), rfl⟩⟩
def SimLm (B : Bs) (RDY : Nat → Hp → Addr → Prop) (A : TA) (js : List Nat) : Prop := ∀ H F σ ρ (Q : List V → Hp → Prop), RelF B H F σ ρ →
  (∀ H' F' (l : List (Nat × Addr)), Ex F F' → Kx B σ H F ρ H' F' ρ → RelF B H' F' σ ρ → l.map (·.1) = js → (∀ z ∈ l, RDY z.1 F' z.2) → Q (l.map fun z => .ref z.2) H') → A σ H Q
section
variable {B : Bs} {σ : L2.St} {H F H1 F1 H' F' : Hp} {ρ ρ1 : Env} {RDY : Nat → Hp → Addr → Prop} {js : List Nat} {A : TA}
theorem RelF.lam3 (R : RelF B H F σ ρ) (hT : B.T ≠ []) (e : LamX.ExtN H H') (t : LamX.Tabs B.T H') : ∃ F', Ex F F' ∧ RelF B H' F' σ ρ ∧ (∀ x o, H x = some o → (∀ ps, o ≠ .tbl ps) → F x = none → F' x = none) ∧ ∀ x o, H' x = some o → ¬ Mut B.C o → F' x = some o := by
  obtain ⟨F1, ex1, R1, fz⟩ := R.lam2 hT e t
  by_cases hc : ∀ x o, H' x = some o → ¬ Mut B.C o → F1 x = some o
  · exact ⟨F1, ex1, R1, fz, hc⟩
  · have s := St1.growE R1.toRelH (Ex.refl H')
    refine ⟨F1, ex1, R1, fz, fun x o h n => ?_⟩
    cases q : F1 x with
    | some u =>
      have := R1.fh x u q
      rw [h] at this; rw [Option.some.inj this]
    | none => exact absurd (R1.lk x o h q) n
theorem sLm_nil : SimLm B RDY tNil [] := fun H F σ ρ Q R k => k H F [] (Ex.refl _) Kx.refl R rfl (fun _ z => nomatch z)
theorem sLm_cons {j : Nat} (hT : B.T ≠ []) (S : StR B.C RDY) (hA : SimLm B RDY A js) : SimLm B RDY (tCons (tLm B.T (RDY j)) A) (j :: js) := fun H F σ ρ Q R k => by
  refine ⟨R.tb, fun f H1 eN T1 hR hf => ?_⟩
  obtain ⟨F1, ex1, R1, fz, keep⟩ := R.lam3 hT eN T1
  have k1 := Kx.lam R eN fz
  refine hA H1 F1 σ ρ _ R1 fun H2 F2 l e2 k2 R2 hl hr => ?_
  refine k H2 F2 ((j, f) :: l) (ex1.trans e2) (k1.trans k2) R2 (by rw [List.map_cons, hl]) fun z hz => ?_
  rcases List.mem_cons.mp hz with rfl | hz
  · exact S _ _ _ _ (fun x o q n => e2 _ _ (keep x o q n)) hR
  · exact hr z hz
theorem lmRefs_len {l : List (Nat × Addr)} : (l.map fun z : Nat × Addr => V.ref z.2).length = (l.map (·.1)).length := by rw [List.length_map, List.length_map]
def uAsgT (RDY : Nat → Hp → Addr → Prop) (js : List Nat) (i : Nat) : US := fun P ρ => js.length ≤ 1000 ∧ ∀ l fp, l.map (·.1) = js → P.nx (ρ.set i (.mu (muT RDY l) fp))
theorem sS_asgT {i : Nat} (S : StR B.C RDY) (h : SimLm B RDY A js) : SimS B (tAsg (tLst A) (gName i)) (uAsgT RDY js i) := fun H F σ ρ D1 P R hu k =>
  h H F σ ρ _ R fun H1 F1 l e1 k1 R1 hl hr => by
    refine ⟨by rw [lmRefs_len, hl]; exact sz_of (by have := hu.1; omega), fun p hp => ?_⟩
    obtain ⟨s, hF⟩ := new_own (vs := l.map fun z => V.ref z.2) R1.toRelH hp
    have R2 := s.rel _ _ R1
    refine k.nx _ F1 _ _ (e1.trans (Ex.refl _)) (R2.setM (M := muT RDY l) (fp := [p]) ⟨S, upd_same, hr, rfl⟩ fun x hx => ?_) (hu.2 l [p] hl)
    rw [List.mem_singleton.mp hx]
    exact ⟨R1.toRelH.n0 hp, hF, R1.fresh R1 hp fun _ _ h => h, _, upd_same, fun _ z => nomatch z⟩
def muTt (RDY : Nat → Hp → Addr → Prop) (x : Option Sl) (k : List (Nat × Addr) → List Addr → Prop) : Prop := ∃ l fp, x = some (.mu (muT RDY l) fp) ∧ k l fp
theorem muTt_i {l : List (Nat × Addr)} {fp : List Addr} {k : List (Nat × Addr) → List Addr → Prop} (h : k l fp) : muTt RDY (some (.mu (muT RDY l) fp)) k := ⟨l, fp, rfl, h⟩
def uCatT (RDY : Nat → Hp → Addr → Prop) (js : List Nat) (i : Nat) : US := fun P ρ => muTt RDY ρ[i]? fun l _ => (l.map (·.1)).length + js.length ≤ 1000 ∧ ∀ l' fp, l'.map (·.1) = l.map (·.1) ++ js → P.nx (ρ.set i (.mu (muT RDY l') fp))
def uAppT (RDY : Nat → Hp → Addr → Prop) (j i : Nat) : US := fun P ρ => muTt RDY ρ[i]? fun l _ => (l.map (·.1)).length < 1000 ∧ ∀ l' fp, l'.map (·.1) = l.map (·.1) ++ [j] → P.nx (ρ.set i (.mu (muT RDY l') fp))
end
def uMetX {S : Type} (O : Own S) (i : Nat) (g : UMX S) (a : UA) : Env → (Env → Prop) → Prop := fun ρ P => muSt O ρ[i]? (fun _ _ => True) ∧ a ρ fun ds ρ1 => muSt O ρ1[i]? fun s _ => g s ds fun s' => ∀ fp', P (ρ1.set i (.mu (O.mu s') fp'))
def uDefX (g : List D → Prop) (a : UA) : Env → (Env → Prop) → Prop := fun ρ P => a ρ fun ds ρ1 => g ds ∧ P ρ1
section
variable {B : Bs} {cs : Nat → Addr} {idx : Nat} {A : TA} {U : UA}
end
def AllU (UT : Nat → Env → (Env → Prop) → Prop) (RDY : Nat → Hp → Addr → Prop) (i : Nat) (L : List (Nat × Addr)) (P : Env → Prop) : List Nat → Env → Prop
  | [], ρ => P ρ
  | j :: js, ρ => UT j ρ fun ρ' => (∃ fp, ρ'[i]? = some (.mu (muT RDY L) fp)) ∧ AllU UT RDY i L P js ρ'
def uAllJ (js : List Nat) (RDY : Nat → Hp → Addr → Prop) (UT : Nat → Env → (Env → Prop) → Prop) (i idx : Nat) : UE := fun ρ P => muTt RDY ρ[i]? fun l _ => (∀ j ∈ l.map (·.1), j ∈ js) ∧ AllU UT RDY i l (fun ρ' => P (.bl true) ρ') (l.map (·.1)) ρ
section
variable {B : Bs} {CT : Addr} {cs : Nat → Addr} {RDY : Nat → Hp → Addr → Prop} {RT : Nat → XK → TE} {UT : Nat → Env → (Env → Prop) → Prop} {idx i : Nat}
end
section
variable {RDY : Nat → Hp → Addr → Prop} {UT : Nat → Env → (Env → Prop) → Prop} {i idx j : Nat} {L : List (Nat × Addr)} {P : UEnds} {ρ : Env} {js : List Nat} {Q : Env → Prop} {Z : D → Env → Prop}
theorem e_allJ : uAllJ js RDY UT i idx ρ Z = muTt RDY ρ[i]? fun l _ => (∀ j ∈ l.map (·.1), j ∈ js) ∧ AllU UT RDY i l (fun ρ' => Z (.bl true) ρ') (l.map (·.1)) ρ := rfl
theorem e_asgT : uAsgT RDY js i P ρ = (js.length ≤ 1000 ∧ ∀ l fp, l.map (·.1) = js → P.nx (ρ.set i (.mu (muT RDY l) fp))) := rfl
theorem e_catT : uCatT RDY js i P ρ = muTt RDY ρ[i]? fun l _ => (l.map (·.1)).length + js.length ≤ 1000 ∧ ∀ l' fp, l'.map (·.1) = l.map (·.1) ++ js → P.nx (ρ.set i (.mu (muT RDY l') fp)) := rfl
theorem e_appT : uAppT RDY j i P ρ = muTt RDY ρ[i]? fun l _ => (l.map (·.1)).length < 1000 ∧ ∀ l' fp, l'.map (·.1) = l.map (·.1) ++ [j] → P.nx (ρ.set i (.mu (muT RDY l') fp)) := rfl
theorem e_defX {g : List D → Prop} {a : UA} : uDefX g a ρ Q = a ρ fun ds ρ1 => g ds ∧ Q ρ1 := rfl
theorem e_metX {S : Type} {O : Own S} {g : UMX S} {a : UA} : uMetX O i g a ρ Q = (muSt O ρ[i]? (fun _ _ => True) ∧ a ρ fun ds ρ1 => muSt O ρ1[i]? fun s _ => g s ds fun s' => ∀ fp', Q (ρ1.set i (.mu (O.mu s') fp'))) := rfl
theorem allU_nil : AllU UT RDY i L Q [] ρ = Q ρ := rfl
theorem allU_cons : AllU UT RDY i L Q (j :: js) ρ = UT j ρ fun ρ' => (∃ fp, ρ'[i]? = some (.mu (muT RDY L) fp)) ∧ AllU UT RDY i L Q js ρ' := rfl
end
end TkL


namespace TkL
open PySem PySem.Spec PySem.Calls PyProof.Rows L2 Tk LamX
def xNil : Expr := .List [] ⟨0, 0, 0, 0⟩
def stAt (l : List Stmt) (i : Nat) : Stmt := l.getD i (.Pass ⟨0, 0, 0, 0⟩)
def stVal : Stmt → Expr
  | .Assign _ v _ => v
  | .Expr v _ => v
  | .Return (some v) _ => v
  | _ => xNil
def exAt : Expr → Nat → Expr
  | .List es _, i => es.getD i xNil
  | .Tuple es _ _, i => es.getD i xNil
  | .Call _ es _ _, i => es.getD i xNil
  | .BinOp a _ b _, i => if i = 0 then a else b
  | _, _ => xNil
def lmOf (b : Bool) : Expr → Lm
  | .Lambda p e s _ => ⟨p, e, s, b⟩
  | _ => ⟨⟨[], [], none, [], [], none, []⟩, xNil, ⟨.function, [], false, false, []⟩, b⟩
theorem lmB_no {m : Lm} {q : Str} (h : m.dft = false) (hb : ∀ (cl : List (Str × Addr)) (doc pm cdv ctv : Value), bindArgs (PySem.W.kdv_fn "<lambda>" q m.params (.expr m.body) m.scope cl .none doc pm cdv ctv) ⟨[], []⟩ = pure []) : LmB m q := fun cl doc pm cdv ctv => by
  rw [if_neg (by rw [h]; exact Bool.false_ne_true)]; exact hb _ _ _ _ _
theorem lmB_df {m : Lm} {q : Str} (nm : Str) (h : m.dft = true) (hn : m.scope.names.lookup nm = some .local) (hb : ∀ (cl : List (Str × Addr)) (doc pm cdv ctv : Value) (T : Addr) (u : Value), ∃ k : Option (Array Value) → Sem (List (Str × Value)), bindArgs (PySem.W.kdv_fn "<lambda>" q m.params (.expr m.body) m.scope cl (.ref T) doc pm cdv ctv) ⟨[], []⟩ = seqItems? (.ref T) >>= k ∧ k (some #[u]) = pure [(nm, u)]) : LmB m q := fun cl doc pm cdv ctv => by
  rw [if_pos h]; exact ⟨nm, hn, fun T u => hb _ _ _ _ _ T u⟩
theorem pe_imp {X : Cx} {e : Expr} {t t' : TE} (h : PE X e t) (k : ∀ σ H Q, t' σ H Q → t σ H Q) : PE X e t' := ⟨fun pins s σ H Q I h' => h.run pins s σ H Q I (k σ H Q h')⟩
theorem tLm_imp {T : List (Addr × Str)} {R R' : Hp → Addr → Prop} (k : ∀ H f, R H f → R' H f) (σ : L2.St) (H : Hp) (Q : VK) (h : tLm T R' σ H Q) : tLm T R σ H Q := ⟨h.1, fun f H1 e t r n => h.2 f H1 e t (k _ _ r) n⟩
theorem cellsN {x : Str} {c : Addr} : ∀ {names : List (Str × NameKind)} {n : Nat} {acc : List (Str × Addr)}, (x, c) ∈ cellsFrom n names acc → (x, c) ∈ acc ∨ (x, NameKind.cell) ∈ names
  | [], _, _, h => .inl h
  | (a, k) :: r, n, acc, h => by
    unfold cellsFrom at h
    by_cases q : (k == NameKind.cell) = true
    · rw [if_pos q] at h
      rcases cellsN h with h | h
      · rcases List.mem_cons.mp h with h | h
        · cases h
          rw [beq_iff_eq.mp q]; exact .inr (.head _)
        · exact .inl h
      · exact .inr (.tail _ h)
    · rw [if_neg q] at h
      rcases cellsN h with h | h
      · exact .inl h
      · exact .inr (.tail _ h)
theorem vis_of {sc : Scope} {n : Nat} {x : Str} {c : Addr} (hu : (sc.names.map (·.1)).Nodup) (e : (cellsFrom n sc.names []).lookup x = some c) : sc.names.lookup x = some .cell := by
  rcases cellsN (PySem.mem_of_lookup e) with hm | h1
  · cases hm
  · have key : ∀ (l : List (Str × NameKind)), (l.map (·.1)).Nodup → (x, NameKind.cell) ∈ l → l.lookup x = some .cell := by
      intro l
      induction l with
      | nil => intro _ h; cases h
      | cons a l ih =>
        intro hn hm
        rw [List.lookup_cons]
        rcases List.mem_cons.mp hm with rfl | hm
        · rw [beq_self_eq_true]
        · have ha := List.nodup_cons.mp hn
          have ne : (x == a.1) = false := by
            cases q : (x == a.1) with
            | false => rfl
            | true =>
              have := beq_iff_eq.mp q
              exact absurd (List.mem_map_of_mem (f := (·.1)) hm) (by rw [show (x, NameKind.cell).1 = a.1 from this]; exact ha.1)
          rw [ne]
          exact ih ha.2 hm
    exact key _ hu h1
section
variable {P : Program} {w : World} {K : PySem.W.Frag} {mg : Str → Option Value} {base : Heap} {CT : Addr} {cs : Nat → Addr}
theorem stR_rdy {C : Addr} {n : Nat} {q : Str} {Ls : Nat → Lm} {cells : List (Str × Addr)} : StR C (fun j H f => j < n ∧ Rdy q (Ls j) (cloFrom cells (Ls j).scope.names []) H f) := fun j f H H' e h => by
  obtain ⟨hj, dV, c', h1, h2, h3⟩ := h
  have nE : ∀ {o : HO}, (∀ l, o ≠ .lst l) → (∀ l, o ≠ .tbl l) → (∀ l, o ≠ .dT l) → (∀ a b c, o ≠ .ins a b c) → (∀ l, o ≠ .dK l) → ¬ Mut C o := fun a b c d k z => by
    rcases z with ⟨_, z⟩ | ⟨_, z⟩ | ⟨_, z⟩ | ⟨_, _, _, z, _⟩ | ⟨_, _, _, z⟩
    · exact a _ z
    · exact b _ z
    · exact c _ z
    · exact d _ _ _ z
    · exact k _ z
  refine ⟨hj, dV, c', e _ _ h1 ?_, e _ _ h2 ?_, h3.ext fun t ht => e _ _ ht nmut_tup⟩
  · unfold LmO
    exact nE (fun _ z => nomatch z) (fun _ z => nomatch z) (fun _ z => nomatch z) (fun _ _ _ z => nomatch z) fun _ z => nomatch z
  · unfold CodeO
    exact nE (fun _ z => nomatch z) (fun _ z => nomatch z) (fun _ z => nomatch z) (fun _ _ _ z => nomatch z) fun _ z => nomatch z
end
end TkL



namespace TkL
open PySem PySem.Spec PySem.Calls PyProof.Rows L2 Tk
section
variable (K : PySem.W.Frag) (C : Addr) (CJ : Addr) (CR : Addr) (cls : Addr) (E : XK)
end
end TkL


namespace TkL
open PySem PySem.Spec PySem.Calls PyProof.Rows L2 Tk
end TkL


namespace TkL
open PySem PySem.Spec PySem.Calls PyProof.Rows L2 Tk
end TkL


namespace TkL
open PySem PySem.Spec PySem.Calls PyProof.Rows L2 Tk
abbrev DM := List (List Int × List D)
def keyI (ks : List Int) : List Key := ks.map .inl
theorem keyI_inj {a b : List Int} (h : keyI a = keyI b) : a = b := by
  unfold keyI at h
  exact (List.map_inj_right (fun x y e => by cases e; rfl)).mp h
def getM : DM → List Int → Option (List D)
  | [], _ => none
  | e :: m, k => if e.1 = k then some e.2 else getM m k
def hasM : DM → List Int → Bool
  | [], _ => false
  | e :: m, k => decide (e.1 = k) || hasM m k
def putM (m : DM) (k : List Int) (l : List D) : DM := if hasM m k = true then m.map (fun e => if e.1 = k then (e.1, l) else e) else m ++ [(k, l)]
section
variable {K : PySem.W.Frag} {C : Addr} {dO : Option Addr}
inductive PrD (K : PySem.W.Frag) (C : Addr) (dO : Option Addr) (F : Hp) : List (List Key × V) → DM → Prop
  | nil : PrD K C dO F [] []
  | cons {k v l kvs m} : Rep K C dO F v (.lst l) → PrD K C dO F kvs m → PrD K C dO F ((keyI k, v) :: kvs) ((k, l) :: m)
theorem PrD.ex {F F' : Hp} (e : Ex F F') : ∀ {kvs : List (List Key × V)} {m : DM}, PrD K C dO F kvs m → PrD K C dO F' kvs m
  | _, _, .nil => .nil
  | _, _, .cons r t => .cons (r.ex e) (t.ex e)
theorem PrD.len {F : Hp} : ∀ {kvs : List (List Key × V)} {m : DM}, PrD K C dO F kvs m → kvs.length = m.length
  | _, _, .nil => rfl
  | _, _, .cons _ t => congrArg (· + 1) t.len
theorem PrD.get {F : Hp} {ks : List Int} {l : List D} : ∀ {kvs : List (List Key × V)} {m : DM}, PrD K C dO F kvs m → getM m ks = some l → ∃ v, valV kvs (keyI ks) = some v ∧ Rep K C dO F v (.lst l)
  | _, _, .nil, h => by cases h
  | _, _, .cons (k := k) (v := v) (l := l') r t, h => by
    unfold getM at h
    by_cases c : k = ks
    · rw [if_pos c] at h
      cases h
      exact ⟨v, valV_pos (by rw [c]), r⟩
    · rw [if_neg c] at h
      obtain ⟨u, h1, h2⟩ := t.get h
      exact ⟨u, by rw [valV_neg (fun z => c (keyI_inj z))]; exact h1, h2⟩
theorem PrD.any {F : Hp} {ks : List Int} : ∀ {kvs : List (List Key × V)} {m : DM}, PrD K C dO F kvs m → (kvs.any fun kv => decide (kv.1 = keyI ks)) = hasM m ks
  | _, _, .nil => rfl
  | _, _, .cons (k := k) r t => by
    rw [List.any_cons, t.any]
    show _ = (decide (k = ks) || hasM _ ks)
    congr 1
    by_cases c : k = ks
    · rw [decide_eq_true c, decide_eq_true (by rw [c])]
    · rw [decide_eq_false c, decide_eq_false fun z => c (keyI_inj z)]
theorem PrD.map {F : Hp} {ks : List Int} {v : V} {l : List D} (rv : Rep K C dO F v (.lst l)) : ∀ {kvs : List (List Key × V)} {m : DM}, PrD K C dO F kvs m → PrD K C dO F (kvs.map fun kv => if kv.1 = keyI ks then (kv.1, v) else kv) (m.map fun e => if e.1 = ks then (e.1, l) else e)
  | _, _, .nil => .nil
  | _, _, .cons (k := k) r t => by
    rw [List.map_cons, List.map_cons]
    by_cases c : k = ks
    · rw [if_pos (by rw [c]), if_pos c]
      exact .cons rv (t.map rv)
    · rw [if_neg fun z => c (keyI_inj z), if_neg c]
      exact .cons r (t.map rv)
theorem PrD.snoc {F : Hp} {ks : List Int} {v : V} {l : List D} (rv : Rep K C dO F v (.lst l)) : ∀ {kvs : List (List Key × V)} {m : DM}, PrD K C dO F kvs m → PrD K C dO F (kvs ++ [(keyI ks, v)]) (m ++ [(ks, l)])
  | _, _, .nil => .cons rv .nil
  | _, _, .cons r t => .cons r (t.snoc rv)
theorem PrD.put {F : Hp} {ks : List Int} {v : V} {l : List D} {kvs : List (List Key × V)} {m : DM} (rv : Rep K C dO F v (.lst l)) (h : PrD K C dO F kvs m) : PrD K C dO F (putK kvs (keyI ks) v) (putM m ks l) := by
  unfold putK putM
  rw [h.any]
  split
  · exact h.map rv
  · exact h.snoc rv
end
def muD (m : DM) : Mu := ⟨fun K C dO H F p fp => ∃ kvs, H p = some (.dT kvs) ∧ PrD K C dO F kvs m ∧ fp = [p], fun {K C dO H H' F F' p fp} h keep e => by
  obtain ⟨kvs, h1, h2, rfl⟩ := h
  exact ⟨kvs, by rw [keep p (by simp)]; exact h1, h2.ex e, rfl⟩⟩
def muDt (x : Option Sl) (k : DM → Prop) : Prop := ∃ m fp, x = some (.mu (muD m) fp) ∧ k m
def uParVD (i j : Nat) (a : UE) : US := fun P ρ => a ρ fun d ρ1 => ∀ fp, P.nx ((ρ1.set i (.val d)).set j (.mu (muD []) fp))
def uDGetT (i : Nat) (U : UA) : UE := fun ρ P => muDt ρ[i]? (fun _ => True) ∧ U ρ fun ds ρ1 => muDt ρ1[i]? fun m => ∃ ks l, ds = iL ks ∧ getM m ks = some l ∧ ks.length ≤ 10 ∧ P (.lst l) ρ1
def uDSetT (i : Nat) (a : UE) (U : UA) : US := fun P ρ => a ρ fun d ρ1 => muDt ρ1[i]? (fun _ => True) ∧ U ρ1 fun ds ρ2 => ∃ m fp, ρ2[i]? = some (.mu (muD m) fp) ∧ ∃ ks l, ds = iL ks ∧ d = .lst l ∧ m.length < 1000000 ∧ ks.length ≤ 10 ∧ P.nx (ρ2.set i (.mu (muD (putM m ks l)) fp))
section
variable {B : Bs} {ta : TE} {ua : UE} {A : TA} {U : UA}
end
section
variable {i j : Nat} {a : UE} {U : UA} {ρ : Env} {P : UEnds} {Q : D → Env → Prop}
theorem e_parVD : uParVD i j a P ρ = a ρ fun d ρ1 => ∀ fp, P.nx ((ρ1.set i (.val d)).set j (.mu (muD []) fp)) := rfl
theorem e_dgetT : uDGetT i U ρ Q = (muDt ρ[i]? (fun _ => True) ∧ U ρ fun ds ρ1 => muDt ρ1[i]? fun m => ∃ ks l, ds = iL ks ∧ getM m ks = some l ∧ ks.length ≤ 10 ∧ Q (.lst l) ρ1) := rfl
theorem e_dsetT : uDSetT i a U P ρ = a ρ fun d ρ1 => muDt ρ1[i]? (fun _ => True) ∧ U ρ1 fun ds ρ2 => ∃ m fp, ρ2[i]? = some (.mu (muD m) fp) ∧ ∃ ks l, ds = iL ks ∧ d = .lst l ∧ m.length < 1000000 ∧ ks.length ≤ 10 ∧ P.nx (ρ2.set i (.mu (muD (putM m ks l)) fp)) := rfl
end
end TkL


namespace TkL
open PySem PySem.Spec PySem.Calls PyProof.Rows L2 Tk
def Dta (n : Nat) (d : D) : Prop := ∃ x, pd d = some x ∧ x.canLay0 = true ∧ x.depth ≤ n
def Dtl (n : Nat) (l : List D) : Prop := ∃ xs, pds l = some xs ∧ PyData.canLayAll0 xs = true ∧ PyData.depthAll xs ≤ n
theorem Dtl.nil {n : Nat} : Dtl n [] := ⟨[], rfl, rfl, Nat.zero_le _⟩
theorem Dtl.cons {n : Nat} {d : D} {l : List D} (h : Dta n d) (t : Dtl n l) : Dtl n (d :: l) := by
  obtain ⟨x, h1, h2, h3⟩ := h
  obtain ⟨xs, t1, t2, t3⟩ := t
  refine ⟨x :: xs, by unfold pds; rw [h1, t1], ?_, ?_⟩
  · show (x.canLay0 && PyData.canLayAll0 xs) = true
    rw [h2, t2]; rfl
  · show max x.depth (PyData.depthAll xs) ≤ n
    exact Nat.max_le.mpr ⟨h3, t3⟩
theorem dtl_of {n : Nat} : ∀ {l : List D}, (∀ d ∈ l, Dta n d) → Dtl n l
  | [], _ => .nil
  | _ :: _, h => .cons (h _ List.mem_cons_self) (dtl_of fun d hd => h d (List.mem_cons_of_mem _ hd))
theorem Dtl.tup {n : Nat} {l : List D} (h : Dtl n l) : Dta (n + 1) (.tup l) := by
  obtain ⟨xs, h1, h2, h3⟩ := h
  exact ⟨.tuple xs, by unfold pd; rw [h1], h2, Nat.succ_le_succ h3⟩
theorem Dtl.lst {n : Nat} {l : List D} (h : Dtl n l) : Dta (n + 1) (.lst l) := by
  obtain ⟨xs, h1, h2, h3⟩ := h
  exact ⟨.list xs, by unfold pd; rw [h1], h2, Nat.succ_le_succ h3⟩
theorem dta_int {n : Nat} {i : Int} : Dta n (.int i) := ⟨.int i, rfl, rfl, Nat.zero_le _⟩
theorem dta_bl {n : Nat} {i : Bool} : Dta n (.bl i) := ⟨.bool i, rfl, rfl, Nat.zero_le _⟩
theorem dta_str {n : Nat} {z : Str} (h : PyData.strOk z = true) : Dta n (.str z) := ⟨.str z, rfl, h, Nat.zero_le _⟩
theorem Dtl.app {n : Nat} {l m : List D} (h : Dtl n l) (k : Dtl n m) : Dtl n (l ++ m) := by
  induction l with
  | nil => exact k
  | cons a l ih =>
    obtain ⟨xs, h1, h2, h3⟩ := h
    unfold pds at h1
    cases ea : pd a with
    | none => rw [ea] at h1; cases h1
    | some x =>
      cases el : pds l with
      | none => rw [ea, el] at h1; cases h1
      | some ys =>
        rw [ea, el] at h1
        cases h1
        have h2' : (x.canLay0 && PyData.canLayAll0 ys) = true := h2
        rw [Bool.and_eq_true] at h2'
        have h3' : max x.depth (PyData.depthAll ys) ≤ n := h3
        exact .cons ⟨x, ea, h2'.1, (Nat.max_le.mp h3').1⟩ (ih ⟨ys, el, h2'.2, (Nat.max_le.mp h3').2⟩)
theorem Dtl.perm {n : Nat} {l m : List D} (h : ∀ d ∈ l, Dta n d) (p : m.Perm l) : Dtl n m := dtl_of fun d hd => h d (p.mem_iff.mp hd)
end TkL



namespace TkL
open PySem PySem.Spec PySem.Calls PyProof.Rows L2 Tk
section
variable (K : PySem.W.Frag) (C : Addr) (CJ : Addr) (CR : Addr) (T0 : Addr)
end
end TkL


namespace TkL
open PySem PySem.Spec PySem.Calls PyProof.Rows L2 Tk
end TkL


local macro_rules | `(tactic| walk_at "ewd") => do
  let nms (s : String) := (s.splitOn " ").toArray.map fun x => Lean.mkIdent x.toName
  let x1 := nms "TkL.e_parVD TkL.e_dgetT TkL.e_dsetT TkL.e_idx TkL.e_fB TkL.e_fL TkL.e_fE TkL.e_fO TkL.e_never TkL.e_enum TkL.e_rng3 TkL.e_ext TkL.e_augI TkL.e_bor TkL.e_retO TkL.e_retNO TkL.e_par_ovv TkL.e_mk TkL.e_setI TkL.lcs_nil TkL.lcs_cons TkL.fors_nil TkL.fors_cons List.nil_append List.cons_append Nat.reduceLT"
  let t1 ← `(tactic| simp only [$[$x1:ident],*])
  `(tactic| repeat (first | ($t1:tactic) | walk_at "ew" | (with_reducible refine And.intro (TkL.muDt_i trivial) ?_) | (with_reducible refine TkL.muDt_i ?_)))
namespace TkL
open PySem PySem.Spec PySem.Calls PyProof.Rows L2 Tk
theorem ok_app {a b : Str} (h : PyData.strOk a = true) (k : PyData.strOk b = true) : PyData.strOk (a ++ b) = true := by
  unfold PyData.strOk at h k ⊢
  show (a.cps ++ b.cps).all _ = true
  rw [Array.all_append, h, k]; rfl
theorem ok_num {i : Int} (h : 0 ≤ i) : PyData.strOk (numS i) = true := by
  have e : (numS i).cps.toList = TL.numL i.toNat := by rw [numS_S h]
  unfold PyData.strOk
  rw [← Array.all_toList, e, List.all_eq_true]
  intro c hc
  have := TL.numL_digits _ c hc
  exact decide_eq_true (by omega)
theorem ok_cat : ∀ {l : List Int}, (∀ x ∈ l, 0 ≤ x) → PyData.strOk (catS (sepN l)) = true
  | [], _ => by decide +kernel
  | a :: l, h => by
    show PyData.strOk (catS (((" " : Str) ++ numS a) :: sepN l)) = true
    rw [catS_cons]
    exact ok_app (ok_app (by decide +kernel) (ok_num (h a List.mem_cons_self))) (ok_cat fun x hx => h x (List.mem_cons_of_mem _ hx))
theorem ok_text {r : RV} (rb : RB r) : PyData.strOk (rowText r) = true := by
  have w := rb.c.wf
  have ll := lap_lists rb
  unfold rowText
  split
  · decide +kernel
  · refine ok_app (ok_app (ok_num ?_) (ok_cat fun x hx => by have := ll.1 x hx; omega)) ?_
    · by_cases c1 : 0 < r.early.length
      · rw [if_pos c1]
        have m : r.early.getD 0 0 ∈ r.early := by rw [List.getD_eq_getElem?_getD, List.getElem?_eq_getElem c1]; exact List.getElem_mem c1
        exact (w.er _ m).1
      · rw [if_neg c1]
        have b0 := w.b0
        by_cases c2 : 0 < r.offs.length
        · have m : r.offs.getD 0 0 ∈ r.offs := by rw [List.getD_eq_getElem?_getD, List.getElem?_eq_getElem c2]; exact List.getElem_mem c2
          have := w.ow _ m
          omega
        · have : r.offs = [] := List.eq_nil_of_length_eq_zero (by omega)
          rw [this]; simp; omega
    · split
      · exact ok_app (by decide +kernel) (ok_cat fun x hx => by have := ll.2 x hx; omega)
      · decide +kernel
def HasP (f : Int → Bool) (q : RV) : Prop := RB q ∧ ∀ t, q.has t = f t
theorem HasP.u {f : Int → Bool} (a b : RV) (h : HasP f a) (k : HasP f b) : a = b := h.1.ext k.1 fun t => by rw [h.2, k.2]
theorem AndR.u {r s : RV} (a b : RV) (h : AndR r s a) (k : AndR r s b) : a = b := h.1.ext k.1 fun t => by rw [h.2, k.2]
end TkL


namespace TkL
open PySem PySem.Spec PySem.Calls PyProof.Rows L2 Tk
section
variable {B : Bs} {σ σ' : L2.St} {H F : Hp} {ρ : Env} {vs : List Nat}
end
section
variable {B : Bs}
def uLcX (it : UI) (g : UG) (ct : UT) (el : UE) (vs : List Nat) : UE := fun ρ P => it ρ fun xs ρ1 => ∃ I : Nat → List D → Env → Prop, I 0 [] (wipeU ρ1 vs) ∧
  (∀ i x acc ρ, xs[i]? = some x → I i acc ρ → g x (wipeU ρ vs) fun ρ2 => ct ρ2 fun b ρ3 => if b = true then el ρ3 fun y ρ4 => acc.length < 1000000 ∧ I (i + 1) (acc ++ [y]) (wipeU ρ4 vs) else I (i + 1) acc (wipeU ρ3 vs)) ∧
  ∀ acc ρ, I xs.length acc ρ → P (.lst acc) ρ
variable {tt : TT} {ut : UT} {te : TE} {ue : UE}
theorem e_lcX {it : UI} {g : UG} {ct : UT} {el : UE} {vs : List Nat} {ρ : Env} {P : D → Env → Prop} : uLcX it g ct el vs ρ P = it ρ fun xs ρ1 => ∃ I : Nat → List D → Env → Prop, I 0 [] (wipeU ρ1 vs) ∧
  (∀ i x acc ρ, xs[i]? = some x → I i acc ρ → g x (wipeU ρ vs) fun ρ2 => ct ρ2 fun b ρ3 => if b = true then el ρ3 fun y ρ4 => acc.length < 1000000 ∧ I (i + 1) (acc ++ [y]) (wipeU ρ4 vs) else I (i + 1) acc (wipeU ρ3 vs)) ∧
  ∀ acc ρ, I xs.length acc ρ → P (.lst acc) ρ := rfl
end
end TkL


namespace TkL
open PySem PySem.Spec PySem.Calls PyProof.Rows L2 Tk
structure Ob (S : Type) where
  a : Addr
  fp : List Addr
  s : S
def fpsO {S : Type} (os : List (Ob S)) : List Addr := os.flatMap (·.fp)
def refsO (as : List Addr) : List V := as.map V.ref
def DisO {S : Type} (os : List (Ob S)) : Prop := os.Pairwise fun o q => ∀ x ∈ o.fp, x ∉ q.fp
def ObsAt {S : Type} (O : Own S) (K : PySem.W.Frag) (C : Addr) (dO : Option Addr) (H F : Hp) (os : List (Ob S)) : Prop := ∀ o ∈ os, (O.mu o.s).At K C dO H F o.a o.fp
theorem fpsO_mem {S : Type} {os : List (Ob S)} {x : Addr} : x ∈ fpsO os ↔ ∃ o ∈ os, x ∈ o.fp := List.mem_flatMap
def muLs {S : Type} (O : Own S) (ss : List S) (as : List Addr) : Mu := ⟨fun K C dO H F p fp => ∃ os : List (Ob S), os.map (·.s) = ss ∧ os.map (·.a) = as ∧ H p = some (.lst (refsO as)) ∧ ObsAt O K C dO H F os ∧ DisO os ∧ (∀ o ∈ os, p ∉ o.fp) ∧ fp = p :: fpsO os, fun {K C dO H H' F F' p fp} h keep e => by
  obtain ⟨os, h1, h2, h3, h4, h5, h6, rfl⟩ := h
  exact ⟨os, h1, h2, by rw [keep p List.mem_cons_self]; exact h3, fun o ho => (O.mu o.s).st (h4 o ho) (fun x hx => keep x (List.mem_cons_of_mem _ (fpsO_mem.mpr ⟨o, ho, hx⟩))) e, h5, h6, rfl⟩⟩
def uMetL {S : Type} (O : Own S) (i j : Nat) (g : UM S) (a : UA) : UE := fun ρ P => ∃ ss0 as fp0, ρ[i]? = some (.mu (muLs O ss0 as) fp0) ∧ j < ss0.length ∧ a ρ fun ds ρ1 => ∃ ss fp s, ρ1[i]? = some (.mu (muLs O ss as) fp) ∧ ss[j]? = some s ∧ g s ds fun d s' => ∀ fp', P d (ρ1.set i (.mu (muLs O (ss.set j s') as) fp'))
section
variable {B : Bs} {S : Type} {O : Own S} {i j : Nat} {g : UM S} {m : Str} {A : TA} {U : UA}
theorem e_metL {a : UA} {ρ : Env} {P : D → Env → Prop} : uMetL O i j g a ρ P = ∃ ss0 as fp0, ρ[i]? = some (.mu (muLs O ss0 as) fp0) ∧ j < ss0.length ∧ a ρ fun ds ρ1 => ∃ ss fp s, ρ1[i]? = some (.mu (muLs O ss as) fp) ∧ ss[j]? = some s ∧ g s ds fun d s' => ∀ fp', P d (ρ1.set i (.mu (muLs O (ss.set j s') as) fp')) := rfl
end
end TkL


namespace TkL
open PySem PySem.Spec PySem.Calls PyProof.Rows L2 Tk
def Car (B : Bs) (σ : L2.St) (ρ : Env) (H F : Hp) (x : Addr) : Prop := B.H0 x = none ∧ F x = none ∧ Fre σ ρ x ∧ ∃ o, H x = some o ∧ ∀ ps, o ≠ .tbl ps
section
variable {B : Bs} {σ : L2.St} {ρ ρ' : Env} {H F H' F' : Hp} {x : Addr}
theorem Car.kx (R : RelH B H F) (c : Car B σ ρ H F x) (k : Kx B σ H F ρ H' F' ρ') : Car B σ ρ' H' F' x ∧ H' x = H x := by
  obtain ⟨c1, c2, c3, o, c4, c5⟩ := c
  have h' := k.kp x o c3.2 (R.d0 c1) c5 c4
  refine ⟨⟨c1, k.pr x ⟨o, c4, c5⟩ c2 c3.1 c3.2, ⟨fun i l e => ?_, fun i M fp e => k.mw x ⟨o, c4, c5⟩ c3.2 i M fp e⟩, o, h', c5⟩, by rw [h', c4]⟩
  obtain ⟨l', e'⟩ := k.ow i l e
  exact c3.1 i l' e'
theorem Car.upd (c : Car B σ ρ H F x) {D : Addr} {l : List V} (n : x = D ∨ x ≠ D) : Car B σ ρ (upd H D (.lst l)) F x := by
  obtain ⟨c1, c2, c3, o, c4, c5⟩ := c
  refine ⟨c1, c2, c3, ?_⟩
  rcases n with rfl | n
  · exact ⟨_, upd_same, fun _ z => nomatch z⟩
  · exact ⟨o, by rw [upd_ne n]; exact c4, c5⟩
end
def uLcO {S : Type} (it : UI) (g : UG) (u : Env → (S → Env → Prop) → Prop) (vs : List Nat) : Env → (List S → Env → Prop) → Prop := fun ρ P => it ρ fun xs ρ1 => ∃ I : Nat → List S → Env → Prop, I 0 [] (wipeU ρ1 vs) ∧
  (∀ i x acc ρ, xs[i]? = some x → I i acc ρ → g x (wipeU ρ vs) fun ρ2 => u ρ2 fun s ρ3 => acc.length < 1000000 ∧ I (i + 1) (acc ++ [s]) (wipeU ρ3 vs)) ∧ ∀ acc ρ, I xs.length acc ρ → P acc ρ
section
variable {B : Bs} {S : Type} {O : Own S} {te : TE} {u : Env → (S → Env → Prop) → Prop}
def uAsgLs (O : Own S) (a : Env → (List S → Env → Prop) → Prop) (i : Nat) : US := fun P ρ => a ρ fun ss ρ1 => ∀ as fp, P.nx (ρ1.set i (.mu (muLs O ss as) fp))
def uParLO (O : Own S) (i j : Nat) (a : Env → (List S → Env → Prop) → Prop) (b : UE) : US := fun P ρ => a ρ fun ss ρ1 => b ρ1 fun d ρ2 => match d with | .lst l => ∀ as fp, P.nx ((ρ2.set i (.mu (muLs O ss as) fp)).set j (.own l)) | _ => False
theorem e_asgLs {a : Env → (List S → Env → Prop) → Prop} {i : Nat} {P : UEnds} {ρ : Env} : uAsgLs O a i P ρ = a ρ fun ss ρ1 => ∀ as fp, P.nx (ρ1.set i (.mu (muLs O ss as) fp)) := rfl
theorem e_parLO {a : Env → (List S → Env → Prop) → Prop} {b : UE} {i j : Nat} {P : UEnds} {ρ : Env} : uParLO O i j a b P ρ = a ρ fun ss ρ1 => b ρ1 fun d ρ2 => match d with | .lst l => ∀ as fp, P.nx ((ρ2.set i (.mu (muLs O ss as) fp)).set j (.own l)) | _ => False := rfl
theorem e_lcO {it : UI} {g : UG} {u : Env → (S → Env → Prop) → Prop} {vs : List Nat} {ρ : Env} {P : List S → Env → Prop} : uLcO it g u vs ρ P = it ρ fun xs ρ1 => ∃ I : Nat → List S → Env → Prop, I 0 [] (wipeU ρ1 vs) ∧
  (∀ i x acc ρ, xs[i]? = some x → I i acc ρ → g x (wipeU ρ vs) fun ρ2 => u ρ2 fun s ρ3 => acc.length < 1000000 ∧ I (i + 1) (acc ++ [s]) (wipeU ρ3 vs)) ∧ ∀ acc ρ, I xs.length acc ρ → P acc ρ := rfl
end
section
variable {B : Bs} {A : TA} {U : UA}
end
end TkL


namespace TkL
open PySem PySem.Spec PySem.Calls PyProof.Rows L2 Tk
section
variable {X : Cx} {CX : CXT} {k : Nat} {C : Addr} {m x : Str} {sp : Sp} {E : XK} {o e : Expr} {es : List Expr} {ta te tf : TE} {t : TA} {p apos pos : Pos}
end
section
variable {S : Type} {O : Own S} {K : PySem.W.Frag} {C : Addr} {dO : Option Addr} {H F H1 F1 H' F' : Hp}
theorem AftM.back {fp fp' : List Addr} {M : Mu} {p : Addr} (R : RelH ⟨K, C, dO, H, F, []⟩ H F) (ok : MuOk dO H F fp) (st : St1 ⟨K, C, dO, H, F, []⟩ H F H1 F1) (e : Ex H H1) (A : AftM K C dO H1 F1 fp M p H' F' fp') : AftM K C dO H F fp M p H' F' fp' := by
  have nn : ∀ x, H x ≠ none → H1 x ≠ none := fun x h => by
    cases z : H x with
    | none => exact absurd z h
    | some o => rw [e x o z]; exact Option.some_ne_none _
  refine ⟨⟨A.rel.fh, st.ex.trans A.rel.ff, fun x h1 h2 => ?_, A.rel.lk, fun x o n q h => ?_, fun d hd => ?_, A.rel.dd, A.rel.tb, A.rel.tz, A.rel.nt, fun z => absurd rfl z⟩, A.at', A.ok, fun x hx => ?_⟩
  · have h1 : minus H fp x ≠ none := h1
    have nf : x ∉ fp := fun z => h1 (minus_in z)
    rw [minus_out nf] at h1
    refine A.rel.f0 x ?_ (st.fz R x h1 h2)
    show minus H1 fp x ≠ none
    rw [minus_out nf]; exact nn x h1
  · have h : minus H fp x = some o := h
    have nf : x ∉ fp := fun z => by rw [minus_in z] at h; cases h
    rw [minus_out nf] at h
    refine A.rel.kp x o n q ?_
    show minus H1 fp x = some o
    rw [minus_out nf]; exact e x o h
  · show minus H fp d ≠ none
    have nf : d ∉ fp := fun z => (ok d z).1 hd.symm
    rw [minus_out nf]
    exact R.hd d hd
  · rcases A.nw x hx with z | z
    · exact .inl z
    · refine .inr ?_
      cases c : H x with
      | none => rfl
      | some o => exact absurd z (nn x (by rw [c]; exact Option.some_ne_none _))
end
def uRev (a : UE) : UE := fun ρ P => a ρ fun d ρ1 => match d with | .lst l => P (.lst l.reverse) ρ1 | _ => False
theorem e_rev {a : UE} {ρ : Env} {P : D → Env → Prop} : uRev a ρ P = a ρ fun d ρ1 => match d with | .lst l => P (.lst l.reverse) ρ1 | _ => False := rfl
section
variable {B : Bs} {ta tb : TE} {ua : UE}
end
def uParMM {S : Type} (O : Own S) (i j : Nat) (a b : Env → (S → Env → Prop) → Prop) : US := fun P ρ => a ρ fun s ρ1 => b ρ1 fun t ρ2 => ∀ fp fq, P.nx ((ρ2.set i (.mu (O.mu s) fp)).set j (.mu (O.mu t) fq))
section
variable {B : Bs} {S : Type} {O : Own S} {ta tb : TE} {ua ub : Env → (S → Env → Prop) → Prop} {i j : Nat}
theorem e_parMM {P : UEnds} {ρ : Env} : uParMM O i j ua ub P ρ = ua ρ fun s ρ1 => ub ρ1 fun t ρ2 => ∀ fp fq, P.nx ((ρ2.set i (.mu (O.mu s) fp)).set j (.mu (O.mu t) fq)) := rfl
end
end TkL


namespace TkL
open PySem PySem.Spec PySem.Calls PyProof.Rows L2 Tk
def seeAll (s : JV) (ts : List Int) : JV := ts.foldl (fun s t => seenJ s t true) s
def SeeOk : JV → List Int → Prop
  | _, [] => True
  | s, t :: ts => 0 ≤ t ∧ t ≤ 1000000000000000000 ∧ keepJ s t true ≠ [] ∧ SeeOk (seenJ s t true) ts
theorem SeeOk.at {s : JV} {ts us : List Int} {t : Int} (h : SeeOk s (ts ++ t :: us)) : 0 ≤ t ∧ t ≤ 1000000000000000000 ∧ keepJ (seeAll s ts) t true ≠ [] := by
  induction ts generalizing s with
  | nil => exact ⟨h.1, h.2.1, h.2.2.1⟩
  | cons a ts ih => exact ih h.2.2.2
def uMetJ (CJ : Addr) (i : Nat) (g : UM JV) (a : UA) : UE := fun ρ P => ∃ po s0 fp0, ρ[i]? = some (.mu (muJ CJ po s0) fp0) ∧ a ρ fun ds ρ1 => ∃ s fp, ρ1[i]? = some (.mu (muJ CJ po s) fp) ∧ g s ds fun d s' => ∀ fp', P d (ρ1.set i (.mu (muJ CJ po s') fp'))
theorem e_metJ {CJ : Addr} {i : Nat} {g : UM JV} {a : UA} {ρ : Env} {P : D → Env → Prop} : uMetJ CJ i g a ρ P = ∃ po s0 fp0, ρ[i]? = some (.mu (muJ CJ po s0) fp0) ∧ a ρ fun ds ρ1 => ∃ s fp, ρ1[i]? = some (.mu (muJ CJ po s) fp) ∧ g s ds fun d s' => ∀ fp', P d (ρ1.set i (.mu (muJ CJ po s') fp')) := rfl
end TkL


local macro_rules | `(tactic| walk_at "ewl") => do
  let nms (s : String) := (s.splitOn " ").toArray.map fun x => Lean.mkIdent x.toName
  let x1 := nms "TkL.e_lcX TkL.e_metJ TkL.e_metL TkL.e_asgLs TkL.e_parLO TkL.e_parMM TkL.e_lcO TkL.e_rev TkL.e_mseq TkL.e_mret TkL.e_mretN TkL.e_met TkL.e_jkept TkL.e_jfacts TkL.e_jmeets TkL.e_jset TkL.e_japp TkL.e_cnt TkL.e_lrng TkL.e_asgM TkL.e_parMV TkL.e_jmk TkL.o_mu TkL.e_idx TkL.e_fB TkL.e_fL TkL.e_fE TkL.e_fO TkL.e_never TkL.e_enum TkL.e_rng3 TkL.e_ext TkL.e_augI TkL.e_bor TkL.e_retO TkL.e_retNO TkL.e_par_ovv TkL.e_mk TkL.e_setI TkL.e_g0 TkL.e_gThen TkL.e_gPl TkL.e_gYield TkL.e_gFor TkL.lcs_nil TkL.lcs_cons TkL.fors_nil TkL.fors_cons List.nil_append List.cons_append Nat.reduceLT"
  let t1 ← `(tactic| simp only [$[$x1:ident],*])
  `(tactic| repeat (first | ($t1:tactic) | walk_at "ew" | (with_reducible refine And.intro (TkL.muJt_i trivial) ?_) | (with_reducible refine TkL.muJt_i ?_) | (with_reducible refine And.intro (TkL.muS_i trivial) ?_) | (with_reducible refine TkL.muS_i ?_)))
namespace TkL
open PySem PySem.Spec PySem.Calls PyProof.Rows L2 Tk
end TkL



namespace TkL
open PySem PySem.Spec PySem.Calls PyProof.Rows L2 Tk
section
variable (K : PySem.W.Frag) (C : Addr) (CJ : Addr) (CR : Addr) (T0 : Addr)
end
end TkL


namespace TkL
open PySem PySem.Spec PySem.Calls PyProof.Rows L2 Tk
end TkL


namespace TkL
open PySem PySem.Spec PySem.Calls PyProof.Rows L2 Tk
end TkL


namespace TkL
open PySem PySem.Spec PySem.Calls PyProof.Rows L2 Tk LamX
section
variable {X : Cx} {x : Str} {c : Value} {body : List Stmt} {st1 : Stmt} {np pos pos' rp : Pos} {tb : WX → TS} {ts : TS} {Wout : WX}
end
end TkL


namespace TkL
open PySem PySem.Spec PySem.Calls PyProof.Rows L2 Tk LamX
section
variable {prog : Program} {w : World} {A : Around} {E : Value → Shared → Prop} {s : Shared}
end
section
variable {X : Cx} {pos : Pos}
end
section
variable {X : Cx} {x : Str} {c : Value} {body : List Stmt} {st1 : Stmt} {np pos pos' rp : Pos} {tb : WX → TS} {ts : TS} {Wout : WX}
end
end TkL


namespace TkL
open PySem PySem.Spec PySem.Calls PyProof.Rows L2 Tk LamX
theorem cx_n2 {P : Program} {w : World} {outer : List PySem.Env} {H : Hp} {s : Shared} {E : XK} {u : Value} {s' : Shared} (h : L2N.CX P w outer H s E u s') : L2.CX P w outer H s E u s' := by
  obtain ⟨a, B, H', cls, d, e, ⟨f1, f2, f3, oe, vs, T, oT, ts, he, hz, r⟩, rest⟩ := h
  exact ⟨a, B, H', cls, d, e, ⟨f1, f2, f3, oe, vs, T, oT, ts, he, hz.zc, r⟩, rest⟩
theorem passLamN {X : Cx} {A : Around} {outer : List PySem.Env} {s : Shared} {H : Hp} {E : XK} {scope : Scope} {f c' : Addr} : Passes (L2N.CX X.prog X.w) (lamCx X A outer s H E scope f c') E := fun pins σ H s e s' I h => passLam pins σ H s e s' I (cx_n2 h)
theorem cxUpN {P : Program} {w : World} : StX.CXUp (L2N.CX P w) := by
  rintro outer s H s2 H2 E e s' un kp ho ⟨a, B, H', cls, d, ea, fl, hok, ub, na, os, ag, he⟩
  refine ⟨a, B, H', cls, d, ea, fl, hok, ⟨fun b o q n hb => ub.keep b o (kp b o q) (un.free b o q n (by simp)) hb, fun b o q hb => ub.slot b o (kp b o q) hb, fun b o q n => ub.free b o (kp b o q) (un.free b o q n (by simp)),
    fun b o q hb => ub.there b o (kp b o q) hb, fun b xs q => ub.tups b xs (un.tups b xs q), fun b o xs q => ub.frzs b o xs (un.frzs b o xs q), fun b ps q => ?_⟩, na, os.trans ho, ag, he⟩
  obtain ⟨m1, e1⟩ := un.tbls b ps q
  obtain ⟨m2, e2⟩ := ub.tbls b _ e1
  exact ⟨m1 ++ m2, by rw [e2, Array.append_assoc]⟩
section
variable {P : Program} {w : World} {K : PySem.W.Frag} {mg : Str → Option Value} {base : Heap} {CX : CXT} {f C : Addr} {fd : FuncData} {ps : List Str} {sp sp' : Sp} {k j : Nat} {x qual m : Str}
theorem okXN {st : Stmt} {N : List Str} (F : Fun K x qual st f fd) (S : FnScope N ps (defScope st)) (len : ∀ vs H Q E, sp vs H Q E → vs.length = ps.length)
    (hbody : ∀ (cdv : Value) (A : Around) (outer : List PySem.Env) (s : Shared) (H : Hp) (vs : List V) (Q : VK) (E : XK), Room k (A.deeper (envOfC qual (defScope st) s.heap.objs.size f cdv)) → sp vs H Q E →
      ∃ t, PSs (cxOf (L2N.CX P w) P w K mg base N qual (defScope st) f cdv A outer s H E) (defBody st) t ∧ t { nx := fun _ H' => Q .non H', rt := Q } (start N vs) H) : FnOk P w K mg base (L2N.CX P w) (k + 1) f fd ps sp := by
  obtain ⟨oc, od, kV, doc, pm, an, cdv, ct, osl, rfl, lk, hcd⟩ := F.ex
  exact fn_of lk hcd S len fun A outer s H vs Q E hr hsp => hbody cdv A outer s H vs Q E hr hsp
theorem FnOk.lift (F : FnOk P w K mg base C8.CX0 k f fd ps sp) : FnOk P w K mg base CX k f fd ps sp := ⟨F.len, fun A outer s H args us vs Q E hr e0 hb r h => codeAny_mono (F.run A outer s H args us vs Q E hr e0 hb r h) fun r s' hq => by
  cases r with
  | error e => exact (show False from hq).elim
  | ok fl => cases fl <;> exact hq⟩
theorem MetN.lift (F : MetN P w K mg base C8.CX0 k C m ps sp) : MetN P w K mg base CX k C m ps sp := by
  obtain ⟨f, fd, a, b, c, d, e, g⟩ := F.ex
  exact ⟨f, fd, a, b, c, d, FnOk.lift e, g⟩
end
section
variable {X : Cx} {CX : CXT} {k : Nat} {C : Addr} {m : Str} {ps : List Str} {sp : Sp} {E : L2.St → XK} {o e : Expr} {es : List Expr} {ta : TE} {t : TA} {apos pos : Pos}
end
section
variable {B : Bs} {σ : L2.St} {H F H' : Hp} {ρ : Env}
theorem RelF.no (R : RelF B H F σ ρ) (j : Nat) : RelF B H F σ (ρ.set j .no) := by
  have get : ∀ (i : Nat) s, (ρ.set j .no)[i]? = some s → s ≠ .no → i ≠ j ∧ ρ[i]? = some s := fun i s e n => by
    rw [List.getElem?_set] at e
    by_cases c : j = i
    · rw [if_pos c] at e
      split at e
      · exact absurd (Option.some.inj e).symm n
      · cases e
    · rw [if_neg c] at e; exact ⟨fun z => c z.symm, e⟩
  exact ⟨R.toRelH, by rw [List.length_set]; exact R.len, fun i d e => R.val i d (get i _ e (fun z => nomatch z)).2, fun i l e => R.own i l (get i _ e (fun z => nomatch z)).2,
    fun i k l m q e1 e2 => R.inj i k l m q (get i _ e1 (fun z => nomatch z)).2 (get k _ e2 (fun z => nomatch z)).2, fun i M fp e => R.mu i M fp (get i _ e (fun z => nomatch z)).2,
    fun i k M fp l q e1 e2 => R.mo i k M fp l q (get i _ e1 (fun z => nomatch z)).2 (get k _ e2 (fun z => nomatch z)).2, fun i k M N fp gp x n e1 e2 => R.mm i k M N fp gp x n (get i _ e1 (fun z => nomatch z)).2 (get k _ e2 (fun z => nomatch z)).2⟩
theorem RelF.muUpd2 (R : RelF B H F σ ρ) {i : Nat} {M M' : Mu} {p : Addr} {fp fp' : List Addr} (hi : ρ[i]? = some (.mu M fp)) (hp : σ[i]? = some (some (.ref p))) (ho : ∀ x, x ∉ fp → H' x = H x) (hm : ∀ x ∈ fp, ∃ o, H' x = some o ∧ Mut B.C o ∧ ∀ ps, o ≠ .tbl ps)
    (hn : ∀ x ∈ fp', x ∈ fp ∨ (B.H0 x = none ∧ F x = none ∧ Fre σ ρ x ∧ ∃ o, H x = some o ∧ ∀ ps, o ≠ .tbl ps)) (at' : M'.At B.K B.C B.dO H' F p fp') : RelF B H' F σ (ρ.set i (.mu M' fp')) := by
  obtain ⟨p0, a0, at0, ok0⟩ := R.mu i M fp hi
  have il : i < ρ.length := (List.getElem?_eq_some_iff.mp hi).1
  have get : ∀ (j : Nat) s, (ρ.set i (.mu M' fp'))[j]? = some s → (j = i ∧ s = .mu M' fp') ∨ (j ≠ i ∧ ρ[j]? = some s) := fun j s e => by
    rw [List.getElem?_set] at e
    by_cases c : i = j
    · rw [if_pos c, if_pos il] at e
      exact .inl ⟨c.symm, (Option.some.inj e).symm⟩
    · rw [if_neg c] at e; exact .inr ⟨fun z => c z.symm, e⟩
  have nf : ∀ {x : Addr}, B.H0 x ≠ none → x ∉ fp := fun {x} h z => h (ok0 x z).1
  have nF : ∀ {x : Addr}, F x ≠ none → x ∉ fp := fun {x} h z => h (ok0 x z).2.1
  have cd : ∀ {x : Addr} {o : HO}, H x = some o → (¬ Mut B.C o) → x ∉ fp := fun {x o} h n z => n (R.lk x o h (ok0 x z).2.1)
  refine ⟨⟨fun x o e => ?_, R.ff, R.f0, fun x o h1 h2 => ?_, fun x o n q e => ?_, R.hd, fun d' e => ?_, fun q hq => ?_, R.tz, R.nt, R.ht⟩, by rw [List.length_set]; exact R.len, fun j d e => ?_, fun j l e => ?_, fun j k l m q e1 e2 h1 h2 => ?_, fun j N gp e => ?_, fun j k N gp l q e1 e2 h1 => ?_, fun j k N N' gp gp' x n e1 e2 hx => ?_⟩
  · rw [ho x (nF (by rw [e]; exact Option.some_ne_none _))]; exact R.fh x o e
  · by_cases c : x ∈ fp
    · obtain ⟨o', h3, h4, _⟩ := hm x c
      rw [h1] at h3; rw [Option.some.inj h3]; exact h4
    · rw [ho x c] at h1; exact R.lk x o h1 h2
  · rw [ho x (nf (by rw [e]; exact Option.some_ne_none _))]; exact R.kp x o n q e
  · obtain ⟨⟨ds, a1, a2⟩, a3⟩ := R.dd d' e
    exact ⟨⟨ds, by rw [ho d' (nf (R.hd d' e))]; exact a1, a2⟩, a3⟩
  · obtain ⟨ps, h1, h2, h3⟩ := R.tb q hq
    have nm : q.1 ∉ fp := fun z => by
      obtain ⟨_, _, o, c3, c4⟩ := ok0 q.1 z
      rw [h1] at c3
      exact c4 ps (Option.some.inj c3).symm
    refine ⟨ps, by rw [ho _ nm]; exact h1, h2, fun pos cv hc => ?_⟩
    obtain ⟨c, e1, e2⟩ := h3 pos cv hc
    refine ⟨c, e1, ?_⟩
    rw [ho c (cd e2 fun m => by
      unfold LamX.CodeO at m
      rcases m with ⟨_, m⟩ | ⟨_, m⟩ | ⟨_, m⟩ | ⟨_, _, _, m, _⟩ | ⟨_, _, _, m⟩ <;> cases m)]
    exact e2
  · rcases get j _ e with ⟨_, z⟩ | ⟨_, e⟩
    · cases z
    · exact R.val j d e
  · rcases get j _ e with ⟨_, z⟩ | ⟨_, e⟩
    · cases z
    · obtain ⟨q, vs, a, b, c, d, g⟩ := R.own j l e
      exact ⟨q, vs, a, b, c, by rw [ho q (R.mo i j M fp l q hi e a)]; exact d, g⟩
  · rcases get j _ e1 with ⟨_, z⟩ | ⟨_, f1⟩
    · cases z
    · rcases get k _ e2 with ⟨_, z⟩ | ⟨_, f2⟩
      · cases z
      · exact R.inj j k l m q f1 f2 h1 h2
  · rcases get j _ e with ⟨rfl, z⟩ | ⟨nj, e⟩
    · cases z
      refine ⟨p, hp, at', fun x hx => ?_⟩
      by_cases cx : x ∈ fp
      · obtain ⟨c1, c2, _⟩ := ok0 x cx
        obtain ⟨o, c3, _, c4⟩ := hm x cx
        exact ⟨c1, c2, o, c3, c4⟩
      · rcases hn x hx with z | ⟨c1, c2, _, o, c3, c4⟩
        · exact absurd z cx
        · exact ⟨c1, c2, o, by rw [ho x cx]; exact c3, c4⟩
    · obtain ⟨q, a, b, c⟩ := R.mu j N gp e
      have kk : ∀ x ∈ gp, H' x = H x := fun x hx => ho x (R.mm j i N M gp fp x nj e hi hx)
      refine ⟨q, a, N.st b kk (Ex.refl _), fun x hx => ?_⟩
      rw [kk x hx]; exact c x hx
  · rcases get k _ e2 with ⟨_, z⟩ | ⟨_, f2⟩
    · cases z
    · rcases get j _ e1 with ⟨j0, z⟩ | ⟨nj, f1⟩
      · cases z
        intro hx
        rcases hn q hx with z | ⟨_, _, c3, _⟩
        · exact R.mo i k M fp l q hi f2 h1 z
        · exact c3.1 k l f2 h1
      · exact R.mo j k N gp l q f1 f2 h1
  · rcases get j _ e1 with ⟨j0, z1⟩ | ⟨nj, f1⟩
    · rcases get k _ e2 with ⟨k0, z2⟩ | ⟨nk, f2⟩
      · exact absurd (j0.trans k0.symm) n
      · cases z1
        rcases hn x hx with z | ⟨_, _, c3, _⟩
        · exact R.mm i k M N' fp gp' x (fun z => nk z.symm) hi f2 z
        · exact c3.2 k N' gp' f2
    · rcases get k _ e2 with ⟨k0, z2⟩ | ⟨nk, f2⟩
      · cases z2
        intro hx'
        rcases hn x hx' with z | ⟨_, _, c3, _⟩
        · exact R.mm j i N M gp fp x nj f1 hi hx z
        · exact c3.2 j N gp f1 hx
      · exact R.mm j k N N' gp gp' x n f1 f2 hx
end
def BadT : D → Prop
  | .int t => ¬ (0 ≤ t ∧ t ≤ 1000000000000000000)
  | .bl _ => True | .non => True | .str _ => True | .tup _ => True
  | _ => False
def gSeeT : UMX JV := fun s ds PX => ∃ d b, ds = [d, .bl b] ∧ BadT d ∧ PX s
def uSeeW (CJ : Addr) (i : Nat) (a : UA) (Wu : Nat → Env → Prop) : UE := fun ρ P => (∃ po s0 fp0, ρ[i]? = some (.mu (muJ CJ po s0) fp0)) ∧ a ρ fun ds ρ1 => ∃ po s fp, ρ1[i]? = some (.mu (muJ CJ po s) fp) ∧
  (gSee s ds (fun d s' => ∀ fp', P d (ρ1.set i (.mu (muJ CJ po s') fp'))) ∨ gSeeX s ds (fun s' => ∀ fp', Wu 5 (ρ1.set i (.mu (muJ CJ po s') fp'))) ∨ gSeeT s ds (fun s' => ∀ fp', Wu 0 (ρ1.set i (.mu (muJ CJ po s') fp'))))
def uTryA (ub : (Nat → Env → Prop) → US) (us : US) (X : Nat → Env → Prop) : US := fun P ρ => ub (fun j ρ' => us { nx := X j, rt := fun _ => False } ρ') P ρ
theorem e_seeW {CJ : Addr} {i : Nat} {a : UA} {Wu : Nat → Env → Prop} {ρ : Env} {P : D → Env → Prop} : uSeeW CJ i a Wu ρ P = ((∃ po s0 fp0, ρ[i]? = some (.mu (muJ CJ po s0) fp0)) ∧ a ρ fun ds ρ1 => ∃ po s fp, ρ1[i]? = some (.mu (muJ CJ po s) fp) ∧
  (gSee s ds (fun d s' => ∀ fp', P d (ρ1.set i (.mu (muJ CJ po s') fp'))) ∨ gSeeX s ds (fun s' => ∀ fp', Wu 5 (ρ1.set i (.mu (muJ CJ po s') fp'))) ∨ gSeeT s ds (fun s' => ∀ fp', Wu 0 (ρ1.set i (.mu (muJ CJ po s') fp'))))) := rfl
theorem e_tryA {ub : (Nat → Env → Prop) → US} {us : US} {X : Nat → Env → Prop} {P : UEnds} {ρ : Env} : uTryA ub us X P ρ = ub (fun j ρ' => us { nx := X j, rt := fun _ => False } ρ') P ρ := rfl
section
variable {B : Bs} {CJ : Addr} {cs : Nat → Addr} {A : TA} {U : UA}
def uPar_vN (i j : Nat) (a b : UE) : US := fun P ρ => a ρ fun d ρ1 => b ρ1 fun e ρ2 => match e with | .lst l => P.nx ((ρ2.set i (.val d)).set j (.own l)) | _ => False
theorem e_par_vN {i j : Nat} {a b : UE} {P : UEnds} {ρ : Env} : uPar_vN i j a b P ρ = a ρ fun d ρ1 => b ρ1 fun e ρ2 => match e with | .lst l => P.nx ((ρ2.set i (.val d)).set j (.own l)) | _ => False := rfl
end
section
variable {K : PySem.W.Frag} {C CJ : Addr} {cs : Nat → Addr} {js : List Nat} {N : List Str} {vs : List V} {H : Hp} {Q : VK} {E : XK}
end
end TkL


namespace TkL
open PySem PySem.Spec PySem.Calls PyProof.Rows L2 Tk LamX
section
variable {B : Bs} {σ : L2.St} {H F H' F' : Hp} {ρ : Env}
theorem app1_get {ρ : Env} {s t : Sl} {i : Nat} (e : (ρ ++ [s])[i]? = some t) : ρ[i]? = some t ∨ (i = ρ.length ∧ t = s) := by
  by_cases c : i < ρ.length
  · rw [List.getElem?_append_left c] at e; exact .inl e
  · rw [List.getElem?_append_right (by omega)] at e
    cases n : i - ρ.length with
    | zero => rw [n] at e; exact .inr ⟨by omega, (Option.some.inj e).symm⟩
    | succ m => rw [n] at e; cases e
theorem RelF.push (R : RelF B H F σ ρ) (v : Option V) : RelF B H F (σ ++ [v]) (ρ ++ [.no]) := by
  have hl := R.len
  have get : ∀ {i : Nat} {s : Sl}, (ρ ++ [Sl.no])[i]? = some s → s ≠ .no → ρ[i]? = some s := fun e n => (app1_get e).resolve_right fun z => n z.2
  have sg : ∀ {i : Nat} {s : Sl}, ρ[i]? = some s → (σ ++ [v])[i]? = σ[i]? := fun {i s} e => List.getElem?_append_left (by have := (List.getElem?_eq_some_iff.mp e).1; omega)
  refine ⟨R.toRelH, by rw [List.length_append, List.length_append, hl]; rfl, fun i d e => ?_, fun i l e => ?_, fun i j l m q e1 e2 h1 h2 => ?_, fun i M fp e => ?_, fun i j M fp l q e1 e2 h1 => ?_, fun i j M N fp gp x n e1 e2 => R.mm i j M N fp gp x n (get e1 fun z => nomatch z) (get e2 fun z => nomatch z)⟩
  · have e := get e fun z => nomatch z
    rw [sg e]; exact R.val i d e
  · have e := get e fun z => nomatch z
    rw [sg e]; exact R.own i l e
  · have e1 := get e1 fun z => nomatch z
    have e2 := get e2 fun z => nomatch z
    rw [sg e1] at h1; rw [sg e2] at h2
    exact R.inj i j l m q e1 e2 h1 h2
  · have e := get e fun z => nomatch z
    rw [sg e]; exact R.mu i M fp e
  · have e1 := get e1 fun z => nomatch z
    have e2 := get e2 fun z => nomatch z
    rw [sg e2] at h1
    exact R.mo i j M fp l q e1 e2 h1
theorem Car.ok {fp : List Addr} (R : RelH B H F) (h : ∀ x ∈ fp, Car B σ ρ H F x) : MuOk B.dO H F fp := fun x hx => by
  obtain ⟨a, b, _, d⟩ := h x hx
  exact ⟨R.d0 a, b, d⟩
end
def uTellMk {S : Type} (idx : Nat) (mk : Env → (S → Env → Prop) → Prop) (g : UMX S) (a : UA) : UE := fun ρ P => mk ρ fun s ρ1 => a ρ1 fun ds ρ2 => g s ds fun _ => P (.tup [.str (errName idx), .int 0]) ρ2
theorem e_tellMk {S : Type} {idx : Nat} {mk : Env → (S → Env → Prop) → Prop} {g : UMX S} {a : UA} {ρ : Env} {P : D → Env → Prop} : uTellMk idx mk g a ρ P = mk ρ fun s ρ1 => a ρ1 fun ds ρ2 => g s ds fun _ => P (.tup [.str (errName idx), .int 0]) ρ2 := rfl
section
variable {B : Bs} {CT : Addr} {cs : Nat → Addr} {idx : Nat} {A : TA} {U : UA}
end
def uAsgU3 {S : Type} (O : Own S) (a : Env → (List S → Env → Prop) → Prop) (i j l : Nat) : US := fun P ρ => a ρ fun ss ρ1 => ∃ s1 s2 s3, ss = [s1, s2, s3] ∧ ∀ f1 f2 f3, P.nx (((ρ1.set i (.mu (O.mu s1) f1)).set j (.mu (O.mu s2) f2)).set l (.mu (O.mu s3) f3))
theorem e_asgU3 {S : Type} {O : Own S} {a : Env → (List S → Env → Prop) → Prop} {i j l : Nat} {P : UEnds} {ρ : Env} : uAsgU3 O a i j l P ρ = a ρ fun ss ρ1 => ∃ s1 s2 s3, ss = [s1, s2, s3] ∧ ∀ f1 f2 f3, P.nx (((ρ1.set i (.mu (O.mu s1) f1)).set j (.mu (O.mu s2) f2)).set l (.mu (O.mu s3) f3)) := rfl
theorem Car.setM {B : Bs} {σ : L2.St} {ρ : Env} {H F : Hp} {x : Addr} {i : Nat} {p : Addr} {M : Mu} {fp : List Addr} (c : Car B σ ρ H F x) (n : x ∉ fp) : Car B (σ.set i (some (.ref p))) (ρ.set i (.mu M fp)) H F x := by
  obtain ⟨a, b, c, d⟩ := c
  refine ⟨a, b, ⟨fun k l e z => ?_, fun k N gp e => ?_⟩, d⟩
  · rw [List.getElem?_set] at e z
    by_cases cc : i = k
    · rw [if_pos cc] at e
      split at e <;> cases e
    · rw [if_neg cc] at e z
      exact c.1 k l e z
  · rw [List.getElem?_set] at e
    by_cases cc : i = k
    · rw [if_pos cc] at e
      split at e
      · cases e; exact n
      · cases e
    · rw [if_neg cc] at e
      exact c.2 k N gp e
section
variable {B : Bs} {S : Type} {O : Own S}
end
section
variable {B : Bs} {A : TA} {U : UA}
end
section
variable {S : Type}
def uObs1 (O : Own S) (i : Nat) (g1 g2 : UM S) : UE := fun ρ P => uMet O i g1 uNil ρ fun d1 ρ1 => uMet O i g2 uNil ρ1 fun d2 ρ2 => P (.lst [d1, d2]) ρ2
def uObsL (O : Own S) (g1 g2 : UM S) : List Nat → List D → UE
  | [], acc => fun ρ P => P (.lst acc) ρ
  | i :: is, acc => fun ρ P => uObs1 O i g1 g2 ρ fun d ρ1 => acc.length < 1000 ∧ uObsL O g1 g2 is (acc ++ [d]) ρ1 P
def uLcObs (O : Own S) (is : List Nat) (k : Nat) (g1 g2 : UM S) : UE := fun ρ P => (is.length ≤ 1000 ∧ ρ[k]? = some .no ∧ ∀ i ∈ is, ∃ s fp, ρ[i]? = some (.mu (O.mu s) fp)) ∧ uObsL O g1 g2 is [] ρ P
theorem e_obs1 {O : Own S} {i : Nat} {g1 g2 : UM S} {ρ : Env} {P : D → Env → Prop} : uObs1 O i g1 g2 ρ P = uMet O i g1 uNil ρ fun d1 ρ1 => uMet O i g2 uNil ρ1 fun d2 ρ2 => P (.lst [d1, d2]) ρ2 := rfl
theorem e_obsN {O : Own S} {g1 g2 : UM S} {acc : List D} {ρ : Env} {P : D → Env → Prop} : uObsL O g1 g2 [] acc ρ P = P (.lst acc) ρ := rfl
theorem e_obsC {O : Own S} {i : Nat} {is : List Nat} {g1 g2 : UM S} {acc : List D} {ρ : Env} {P : D → Env → Prop} : uObsL O g1 g2 (i :: is) acc ρ P = uObs1 O i g1 g2 ρ fun d ρ1 => acc.length < 1000 ∧ uObsL O g1 g2 is (acc ++ [d]) ρ1 P := rfl
theorem e_lcObs {O : Own S} {is : List Nat} {k : Nat} {g1 g2 : UM S} {ρ : Env} {P : D → Env → Prop} : uLcObs O is k g1 g2 ρ P = ((is.length ≤ 1000 ∧ ρ[k]? = some .no ∧ ∀ i ∈ is, ∃ s fp, ρ[i]? = some (.mu (O.mu s) fp)) ∧ uObsL O g1 g2 is [] ρ P) := rfl
variable {B : Bs} {O : Own S}
end
end TkL


local macro_rules | `(tactic| walk_at "ewn") => do
  let nms (s : String) := (s.splitOn " ").toArray.map fun x => Lean.mkIdent x.toName
  let x1 := nms "TkL.e_par_vN TkL.e_seeW TkL.e_tryA TkL.e_tellMk TkL.e_asgU3 TkL.e_obs1 TkL.e_obsN TkL.e_obsC TkL.e_lcObs TkL.e_lcX TkL.e_metJ TkL.e_metL TkL.e_asgLs TkL.e_parLO TkL.e_parMM TkL.e_lcO TkL.e_rev TkL.e_mseq TkL.e_mret TkL.e_mretN TkL.e_met TkL.e_jkept TkL.e_jfacts TkL.e_jmeets TkL.e_jset TkL.e_japp TkL.e_cnt TkL.e_lrng TkL.e_asgM TkL.e_parMV TkL.e_jmk TkL.o_mu TkL.e_idx TkL.e_fB TkL.e_fL TkL.e_fE TkL.e_fO TkL.e_never TkL.e_enum TkL.e_rng3 TkL.e_ext TkL.e_augI TkL.e_bor TkL.e_retO TkL.e_retNO TkL.e_par_ovv TkL.e_mk TkL.e_setI TkL.e_g0 TkL.e_gThen TkL.e_gPl TkL.e_gYield TkL.e_gFor TkL.lcs_nil TkL.lcs_cons TkL.fors_nil TkL.fors_cons List.nil_append List.cons_append Nat.reduceLT"
  let t1 ← `(tactic| simp only [$[$x1:ident],*])
  `(tactic| repeat (first | ($t1:tactic) | walk_at "ew" | (with_reducible refine And.intro (TkL.muJt_i trivial) ?_) | (with_reducible refine TkL.muJt_i ?_) | (with_reducible refine And.intro (TkL.muS_i trivial) ?_) | (with_reducible refine TkL.muS_i ?_)))
namespace TkL
open PySem PySem.Spec PySem.Calls PyProof.Rows L2 Tk
end TkL


namespace TkL
open PySem PySem.Spec PySem.Calls PyProof.Rows L2 Tk LamX
end TkL



namespace TkL
open PySem PySem.Spec PySem.Calls PyProof.Rows L2 Tk
section
variable (K : PySem.W.Frag) (C : Addr) (CJ : Addr) (CR : Addr) (cls : Addr) (E : XK)
end
end TkL


namespace TkL
open PySem PySem.Spec PySem.Calls PyProof.Rows L2 Tk
end TkL


namespace TkW
open PySem PySem.W PySem.Spec PySem.Calls PyProof.Rows
section
variable {prog : Program} {w : World} {A : Around} {E : Value → Shared → Prop} {s : Shared} {K : Frag} {x D : Addr} {ox : Obj} {od : Option Obj}
theorem tk_findObj_any {C : Addr} {name : Str} {a g : Value} (hc : (clsIn K C).isSome = true) (ha : findIn K (.ref C) name = some (some a)) (hg : specialIn K a "__get__" = some (some g)) (ht : takesIn K a = some true) : findObj K C od name = some (.bind g a) := by
  obtain ⟨cd, hc⟩ := Option.isSome_iff_exists.mp hc
  unfold findObj
  rw [hc, Option.bind_some, ha, Option.bind_some]
  simp [hg, ht]
theorem tk_classE {Q : Option Value → Shared → Prop} (hga : findIn K (.ref D) "__getattribute__" = some (some (.builtin "BaseException.__getattribute__"))) (hgt : findIn K (.ref D) "__getattr__" = some none) (hsub : subIn K (.ref D) (.type "BaseException") = some true)
    (hdct : hasDictIn K D = true) (ha : findIn K (.ref D) "__class__" = some (some (.builtin "object.__class__")))
    (hn : specialIn K (.builtin "object.__class__") "__get__" = some (some (.builtin "getset_descriptor.__get__"))) (htk : takesIn K (.builtin "object.__class__") = some true) (hm : mroIn K D (.type "object") = some true)
    (X : K.In s.heap) (I : InstAt s.heap x ox D od) (h : Q (some (.ref D)) { s with toks := s.toks + 1 }) : wpAny (model prog w) A (getAttr? (.ref x) "__class__") Q E s := by
  have hf : findObj K D od "__class__" = some (.bind (.builtin "getset_descriptor.__get__") (.builtin "object.__class__")) := tk_findObj_any (by obtain ⟨cd, hc, _⟩ := any_some hdct; rw [hc]; rfl) ha hn htk
  obtain ⟨hp, g, d, t, os⟩ := s
  have L0 := I.type (M := model prog w)
  have L1 := looks_findIn (M := model prog w) X hga
  have L2 := looks_findIn (M := model prog w) X hgt
  have L3 := looks_find (M := model prog w) X I hf
  have sub : Looks (model prog w) hp (isInstance (.ref x) (.type "BaseException")) true := L0.andThen (looks_subIn X hsub)
  have hx0 : (false && onTheHeap (Value.builtin "BaseException.__getattribute__")) = false := rfl
  have hx2 : (Value.builtin "BaseException.__getattribute__" == Value.builtin "object.__getattribute__") = false := by decide +kernel
  have hx1 : (onTheHeap (Value.ref D) && Value.builtin "BaseException.__getattribute__" == Value.builtin "object.__getattribute__") = false := by rw [hx2]; rfl
  unfold getAttr? getAttrBy? getAttrBy
  refine wpAny_bind (wpAny_mkText (wpAny_bind (wpAny_attempt (wpAny_holding (wpAny_bind (L0.at (wpAny_bind (L1.at ?_))))))))
  show wpAny _ _ (if (onTheHeap (Value.ref D) && Value.builtin "BaseException.__getattribute__" == Value.builtin "object.__getattribute__") = true then _ else _) _ _ _
  rw [hx1, if_neg Bool.false_ne_true]
  unfold getAttrByItsOwn hookBefore
  refine wpAny_bind ?_
  rw [if_pos (show onTheHeap (Value.ref D) = true from rfl)]
  refine L2.at ?_
  refine wpAny_bind (wpAny_attempt (wpAny_holding ?_))
  unfold callGetattribute
  rw [hx0, if_neg Bool.false_ne_true]
  unfold boundAndCalled
  rw [PySem.F.excAttr_ValueError.ga.bind (.ref x)]
  refine wpAny_bind (wpAny_pure ?_)
  show wpAny _ _ (call (.builtin "BaseException.__getattribute__") [.ref x, .str "__class__" t]) _ _ _
  refine wpAny_call (codeAny_call_builtin PySem.F.excAttr_ValueError.ga.plain PySem.F.entry_bexc_ga ?_)
  refine @check_slot (model prog w) _ _ ⟨hp, g, d, t + 1, os⟩ "BaseException.__getattribute__" "BaseException" "__getattribute__" (.ref x) [.str "__class__" t] [] _ (by decide +kernel) (by decide +kernel) sub (PySem.F.args_bexc_ga (.ref x) (.str "__class__" t)) ?_
  unfold Builtin.«object.__getattribute__»
  refine wpAny_bind (wpAny_of_eq (a := ((Value.ref x : Value), [Value.str "__class__" t])) (by first | rfl | (simp only [slotArgs]; rfl)) ?_)
  refine wpAny_bind (wpAny_pure (wpAny_bind (L0.at (wpAny_bind (L3.at ?_)))))
  show wpAny _ _ (holding [Value.builtin "object.__class__"] (call (.builtin "getset_descriptor.__get__") [.builtin "object.__class__", .ref x, .ref D]) >>= ret) _ _ _
  refine wpAny_bind (wpAny_holding (wpAny_call (class_get (s := ⟨hp, g, d, t + 1, os⟩) (ox := ox) (od := od) X I hm ?_)))
  refine wpAny_pure ?_
  show wpAny _ _ (handedOut (.ref D)) _ _ _
  rw [handedOut_of (v := .ref D) rfl]
  first
    | exact wpAny_pure (wpAny_pure h)
    | exact wpAny_pure h
    | exact wpAny_pure (wpAny_bind (wpAny_pure (wpAny_pure h)))
theorem tk_kitx (hga : findIn K (.ref D) "__getattribute__" = some (some (.builtin "BaseException.__getattribute__"))) (hgt : findIn K (.ref D) "__getattr__" = some none) (hsub : subIn K (.ref D) (.type "BaseException") = some true) (hdct : hasDictIn K D = true) (ha : findIn K (.ref D) "__class__" = some (some (.builtin "object.__class__")))
    (hn : specialIn K (.builtin "object.__class__") "__get__" = some (some (.builtin "getset_descriptor.__get__"))) (htk : takesIn K (.builtin "object.__class__") = some true) (hm : mroIn K D (.type "object") = some true) :
    KitX K (.ref x) (.ref D) (fun h => InstAt h x ox D od) where
  ty := fun _ _ _ I => I.type
  it := fun _ _ X _ => by
    obtain ⟨cdD, hcD, _⟩ := any_some hdct
    unfold clsIn at hcD
    split at hcD
    · rename_i c' d' cd' sl' ho
      intro A' Q' E' s' k q
      unfold isType loadHead
      exact wpAny_bind (wpAny_loadPart (k _ _ (X _ _ ho)) (wpAny_pure q))
    · cases hcD
  ne := fun h tp dd its n sl X htp => by
    obtain ⟨cdD, hcD, _⟩ := any_some hdct
    refine Bool.eq_false_iff.mpr fun q => ?_
    have e : D = tp := Value.ref.inj (beq_iff_eq.mp q)
    subst e
    unfold clsIn at hcD
    split at hcD
    · rename_i c' d' cd' sl' ho
      have z := (X _ _ ho).symm.trans htp
      cases z
    · cases hcD
  ca := fun X I k => tk_classE hga hgt hsub hdct ha hn htk hm X I k
end
end TkW
namespace TkL
open PySem PySem.Spec PySem.Calls PyProof.Rows L2 Tk LamX
def rIsX (K : PySem.W.Frag) (D a : Addr) (d : Option Addr) : List V → Hp → VK → Prop := fun xs H Q => ∃ (c : V) (cv : Value) (b : Bool), xs = [.ref a, c] ∧ (∀ u, RelV c u → u = cv) ∧ PySem.W.kitOne K (.ref D) cv = some b ∧ (∀ dd, d = some dd → ∃ fs, H dd = some (.xd fs)) ∧ Q (.bl b) H
theorem call_isX {X : Cx} {a D : Addr} {d : Option Addr} {oe : Obj} {pn : List (Addr × Obj)} (C : ExcC X.K D) (hz : Zc (.ref D) d oe) (hf : ∃ vs, oe.data = .fields vs) : CallR (X.suite a ((a, oe) :: pn)) (.builtin "isinstance") (rIsX X.K D a d) := by
  intro pins s σ H xs us Q I r h
  obtain ⟨c, cv, b, rfl, hcv, e, hd, q⟩ := h
  cases r with
  | cons rx rr =>
    cases rr with
    | cons rt rr =>
      cases rr
      cases rx
      have ec := hcv _ rt
      subst ec
      obtain ⟨hget, _⟩ := I.pin (a, oe) (List.mem_append.mpr (.inl List.mem_cons_self))
      obtain ⟨vs, hv⟩ := hf
      have J : ∃ od, PySem.W.InstAt s.heap a oe D od := by
        obtain ⟨oc, ood, oda, osl⟩ := oe
        obtain ⟨h1, h2⟩ := hz
        dsimp only at h1 h2 hv
        subst h1 h2 hv
        cases ood with
        | none => exact ⟨none, hget, rfl, rfl, trivial⟩
        | some dd =>
          obtain ⟨fs, hx⟩ := hd dd rfl
          have hxo : ObjOk X.prog X.w H s.heap dd (.xd fs) := I.hok dd _ hx
          obtain ⟨mA, hns, hr⟩ := hxo
          obtain ⟨o, ho, hl⟩ := lookIn_ns hns
          exact ⟨some o, hget, rfl, rfl, ho⟩
      obtain ⟨od, J⟩ := J
      exact PySem.W.kia_one (TkW.tk_kitx C.hg C.hk C.hs C.hd C.ha C.hn C.ht C.hm) I.kIn J e (fun z => nomatch z) fun tk => ⟨.bl b, H, I.kept (t' := tk) fun _ _ z => z, rfl, q⟩
theorem pe_cveinit {X : Cx} {x : Str} {CT : Addr} {mc : Value} {p1 p2 pos : Pos} {e : Expr} {es : List Expr} {ta : TA} {pl : Sem Bool} (hg : Gl X x) (hm : X.mg x = some (.ref CT)) (r : ClX.CRead X.K CT mc) (vV : PySem.W.findCls X.K (.ref CT) mc "__init__" = some (.val (.builtin "ValueError.__init__"))) (ha : PA X (e :: es) ta)
    (hdb : (x == ("__debug__" : Str)) = false := by decide)
    (hc : eval (.Call (.Attribute (.Name x p1) "__init__" p2) (e :: es) [] pos) X.env = (do
      let ov ← eval (.Name x p1) X.env
      standAt p2.atName
      let (f, first) ← holding [ov] (getMethod ov "__init__" pl)
      callWith pos f first (backTo pos (starEach (e :: es) X.env)) (backToKw pos (keywordEach [] X.env))) := by rfl)
    (he : starEach (e :: es) X.env = (false, eval e X.env) :: starEach es X.env := by rfl) (hpl : (backTo pos (starEach es X.env)).any (·.1) = false := by rfl) :
    PE X (.Call (.Attribute (.Name x p1) "__init__" p2) (e :: es) [] pos) (tVeI X.K ta) := by
  refine ⟨fun pins s σ H Q I h => ?_⟩
  refine PySem.W.methodCall_KW (ld_glob I hg hm ?_ hdb) hc
  refine PySem.W.method_cls (I.tok _).kIn r.ga (PySem.W.cls_value (I.tok _).kIn r.rd vV (by decide +kernel) ?_)
  show wpAny _ _ (callWith pos (Value.builtin "ValueError.__init__") [] (backTo pos (starEach (e :: es) X.env)) []) _ _ _
  refine PyProof.Rows.callWith_method1 (thn (ha.run pos pins _ σ H _ (I.tok _) h) fun us s1 ⟨vs, H1, I1, r1, a, C, ws, ev, hl, T, ea, q⟩ => ?_) he hpl
  subst ev
  cases r1 with
  | @cons _ u0 _ ur ra rw' =>
    obtain rfl : u0 = Value.ref a := ra
    have hlen : ur.length ≤ sizeLine := by
      rw [← Paired.length rw', sizeLine_eq]
      omega
    exact oinit_ok T I1 ea hlen fun s' J => ⟨.non, H1, J, rfl, q⟩
theorem mk_endN {X : Cx} {pins : List (Addr × Obj)} {σ : L2.St} {H1 H2 : Hp} {Q : XK} {hp hp2 h2 : Heap} {g1 g2 : Array GenState} {d1 d2 : Drawn} {t1 t2 : Nat} {os1 os2 : OsState} {a C d : Addr} {fs : List (Str × V)} (T : Raises X (.ref C)) (I1 : Inv X pins σ H1 ⟨hp, g1, d1, t1, os1⟩)
    (ha : hp.objs.size ≤ a) (k : ∀ b o, hp.get? b = some o → hp2.get? b = some o) (un : Un (frs X.stack) [] (upd H1 a (exo a C none)) H2 hp2 h2) (hok : HOk X.prog X.w H2 h2) (ho : os2 = os1) (hb : AllBare g2)
    (ea : H2 a = some (exo a C (some d))) (ed : H2 d = some (exd d fs)) (hd1 : H1 d = none) (q : Q (.ref C) (some d) (upd (del H2 a) d (.xd fs))) : L2N.MkP X pins σ Q (.ref a) ⟨h2, g2, d2, t2, os2⟩ := by
  obtain ⟨t0, G, J, kG, ge, hoe, na⟩ := mk_end0 (d2 := d2) (t2 := t2) I1 ha k un hok ho hb ea ed hd1
  exact ⟨a, _, _, ⟨G, g2, d2, t2, os2⟩, _, .ref C, some d, rfl, J, kG, ge, hoe, ⟨rfl, rfl, fun vs e => by cases e; rfl⟩, rfl, rfl, na, rfl, hb, T, q⟩
theorem pmk_oexN {X : Cx} {CX : CXT} {x : Str} {C fI : Addr} {k : Nat} {fd : FuncData} {ps : List Str} {sp : Sp} {e : Expr} {es : List Expr} {ta : TA} {p pos : Pos} (T : OexC X.K C) (iC : PySem.W.findIn X.K (.ref C) "__init__" = some (some (.ref fI))) (tI : PySem.W.typeIn X.K (.ref fI) = some (.type "function"))
    (F1 : FnOk X.prog X.w X.K X.mg X.base CX k fI fd ps sp) (hr : Room (k + 1) X.A) (hb : Binds X.K fd ps []) (hx : Passes CX X (fun _ _ _ => False)) (hg : Gl X x) (hm : X.mg x = some (.ref C)) (ha : PA X (e :: es) ta)
    (hdb : (x == ("__debug__" : Str)) = false := by decide) (he : starEach (e :: es) X.env = (false, eval e X.env) :: starEach es X.env := by rfl) (hpl : (backTo pos (starEach es X.env)).any (·.1) = false := by rfl) :
    L2N.PMk X (.Call (.Name x p) (e :: es) [] pos) (tMkO C sp [] ta) := by
  intro pins s σ H Q I h
  obtain ⟨nm, q, N, bs, bm, sn, sub, ab, col, dd, k0, k1, k2, k3, k5, hC, hbm⟩ := T.cls
  refine wpAny_Call_Name_kw (ld_glob I hg hm ?_ hdb)
  refine PySem.W.callWith_K (h₀ := X.base) I.ok.mod.kin T.kC (thn (ha.run pos pins s σ H _ I h) fun us s1 ⟨vs, H1, I1, r1, hz, q1⟩ => ⟨I1.kIn, ?_⟩) he hpl
  show wpAny _ _ (call (.ref C) us) _ _ _
  obtain ⟨hp, g, dr, tk, os⟩ := s1
  have hsz : hp.objs.size ≤ hp.objs.size + 1 := Nat.le_succ _
  have hn : H1 (hp.objs.size + 1) = none := I1.hok.fresh hsz
  have hq := q1 (hp.objs.size + 1) hn
  have kk : ∀ b o, hp.get? b = some o → ((hp.push (PySem.W.kdv_tup us)).push (PySem.HandSPX.excO C hp.objs.size)).get? b = some o := fun b o e => Heap.get?_push_of_some _ (Heap.get?_push_of_some _ e)
  have hget : ((hp.push (PySem.W.kdv_tup us)).push (PySem.HandSPX.excO C hp.objs.size)).get? (hp.objs.size + 1) = some (PySem.HandSPX.excO C hp.objs.size) := by heap_get
  have I2 : Inv X pins σ (upd H1 (hp.objs.size + 1) (exo (hp.objs.size + 1) C none)) ⟨(hp.push (PySem.W.kdv_tup us)).push (PySem.HandSPX.excO C hp.objs.size), g, dr, tk, os⟩ :=
    I1.laid (t' := tk) (a := hp.objs.size + 1) (o := exo (hp.objs.size + 1) C none) (h' := (hp.push (PySem.W.kdv_tup us)).push (PySem.HandSPX.excO C hp.objs.size)) kk hsz (exo_ok hget)
  have r2 : Vals (V.ref (hp.objs.size + 1) :: (vs ++ [])) (Value.ref (hp.objs.size + 1) :: (us ++ [])) := .cons rfl (r1.append .nil)
  have hl : (Value.ref (hp.objs.size + 1) :: us ++ []).length = ps.length := by
    have e := r2.length
    rw [F1.len _ _ _ _ hq] at e
    exact e.symm
  have hus : us.length ≤ sizeLine := by
    rw [← Paired.length r1, sizeLine_eq]
    omega
  have hb2 := hb _ (Value.ref (hp.objs.size + 1) :: us) I2.kIn hl
  rw [List.append_nil] at hb2
  rw [List.append_nil] at hq
  rw [List.append_nil, List.append_nil] at r2
  refine wpAny_call (PySem.HandSPX.call_own F.excBase_ValueError (fun Y => PySem.HandSPX.refsVE_contains Y bm hbm) (I1.kIn _ _ hC) (PySem.W.looks_findIn I1.kIn iC) (fun self => PySem.W.bind_fn I1.kIn self tI) hus
    (codeAny_mono (F1.run _ X.stack _ _ ⟨Value.ref (hp.objs.size + 1) :: us, []⟩ (Value.ref (hp.objs.size + 1) :: us) _ _ (fun _ _ _ => False) (hr.make C us []) (I2.env0.make C us []) hb2 r2 hq) fun r s' hq' => ?_))
  cases r with
  | error er => exact hx pins σ _ _ er s' I2 hq'
  | ok fl =>
    cases fl with
    | ret u =>
      obtain ⟨v, H2, os2, bare2, un2, hok2, rv, ev, d, fs, ea, ed, hd1, q2⟩ := hq'
      subst ev
      obtain ⟨h2, g2, d2, t2, os'⟩ := s'
      exact ⟨rv, mk_endN (raises_own T.exC T.tyC) I1 hsz kk un2 hok2 os2 bare2 ea ed hd1 q2⟩
    | next => exact False.elim hq'
    | brk => exact False.elim hq'
    | cont => exact False.elim hq'
def spXI (K : PySem.W.Frag) (ns : List Str) : Sp := fun vs H Q _ => ∃ (a C : Addr) (ws : List V), vs = .ref a :: ws ∧ ws.length = ns.length ∧ OexC K C ∧ (∀ n ∈ ns, PySem.W.findIn K (.ref C) n = some none) ∧ H a = some (exo a C none) ∧
  ∀ H2 dx fs, H2 a = some (exo a C (some dx)) → H2 dx = some (exd dx fs) → H dx = none → dx ≠ a → (∀ b, b ≠ a → b ≠ dx → H2 b = H b) → (∀ (i : Nat) n v, ns[i]? = some n → ws[i]? = some v → fs.lookup n = some v) → Q .non H2
theorem len_of_spXI {K : PySem.W.Frag} {ns : List Str} {vs : List V} {H : Hp} {Q : VK} {E : XK} (h : spXI K ns vs H Q E) : vs.length = ns.length + 1 := by
  obtain ⟨a, C, ws, rfl, hl, _⟩ := h
  rw [List.length_cons, hl]
def tXI2 (K : PySem.W.Frag) (f g : Str) : TS := tSeq (tDrop (tVeI K (tCons (tPer 0) (tCons (tPer 1) (tCons (tPer 2) tNil))))) (tSeq (tOst K f (tPer 0) (tPer 1)) (tOst K g (tPer 0) (tPer 2)))
theorem rdXI2 {K : PySem.W.Frag} {f g : Str} (hfg : f ≠ g) {N : List Str} (hN : N.length = 3) {vs : List V} {H : Hp} {Q : VK} {E : XK} (h : spXI K [f, g] vs H Q E) : tXI2 K f g { nx := fun _ H' => Q .non H', rt := Q } (L2.start N vs) H := by
  obtain ⟨a, C, ws, rfl, hl, T, hno, ea, k⟩ := h
  obtain ⟨v, u, rfl⟩ : ∃ v u, ws = [v, u] := by match ws, hl with | [v, u], _ => exact ⟨v, u, rfl⟩
  have e : L2.start N [.ref a, v, u] = [some (.ref a), some v, some u] := by
    match N, hN with
    | [x, y, z], _ => rfl
  rw [e]
  refine ⟨.ref a, rfl, v, rfl, u, rfl, a, C, [v, u], rfl, by simp, T, ea, ?_⟩
  refine ⟨v, rfl, .ref a, rfl, a, C, rfl, T, hno f (by simp), .inl ⟨ea, fun dx hd hn => ?_⟩⟩
  refine ⟨u, rfl, .ref a, rfl, a, C, rfl, T, hno g (by simp), .inr ⟨dx, _, upd_same, by rw [upd_ne hn]; exact upd_same, by simp, ?_⟩⟩
  refine k _ dx _ (by rw [upd_ne hn.symm]; exact upd_same) upd_same hd hn (fun b h1 h2 => by rw [upd_ne h2, upd_ne h1, upd_ne h2]) fun i n w hi hw => ?_
  match i, hi, hw with
  | 0, hi, hw => cases hi; cases hw; rw [lookup_put, if_neg hfg, lookup_put, if_pos rfl]
  | 1, hi, hw => cases hi; cases hw; rw [lookup_put, if_pos rfl]
def tRaiseX (C : Addr) (sp : Sp) (ta : TA) (W : WX) : TS := fun _ σ H => tMkO C sp [] ta σ H fun cls d H' => W cls d σ H'
theorem ps_raiseX {X : Cx} {C : Addr} {sp : Sp} {ta : TA} {W : WX} {e : Expr} {pos : Pos} (hc : X.calm = true) (tk : L2N.Takes X W) (he : L2N.PMk X e (tMkO C sp [] ta)) : PS X (.Raise (some e) none pos) (tRaiseX C sp ta W) := L2N.ps_raise hc tk he
end TkL


namespace TkL
open PySem PySem.Spec PySem.Calls PyProof.Rows L2 Tk LamX
def tErrX (K : PySem.W.Frag) (E a : Addr) (d : Option Addr) (cs : Nat → Addr) : TS :=
  (tSeq (tAsg (tLst (tCons (tCB (rIsX K E a d) (tCons (tVar 1) (tCons (tC (.ref (cs 0))) tNil))) (tCons (tCB (rIsX K E a d) (tCons (tVar 1) (tCons (tC (.ref (cs 1))) tNil))) (tCons (tCB (rIsX K E a d) (tCons (tVar 1) (tCons (tC (.ref (cs 2))) tNil))) tNil)))) (gName 2))
    (tSeq (tAsg (tOp rCat (tVar 2) (tLst (tCons (tCB (rIsX K E a d) (tCons (tVar 1) (tCons (tC (.ref (cs 3))) tNil))) (tCons (tCB (rIsX K E a d) (tCons (tVar 1) (tCons (tC (.ref (cs 4))) tNil))) (tCons (tCB (rIsX K E a d) (tCons (tVar 1) (tCons (tC (.ref (cs 5))) tNil))) tNil))))) (gName 2))
    (tSeq (tAsg (tOp rCat (tVar 2) (tLst (tCons (tCB (rIsX K E a d) (tCons (tVar 1) (tCons (tC (.ref (cs 6))) tNil))) tNil))) (gName 2))
    (tSeq (tAsg (tOp rCat (tVar 2) (tLst (tCons (tCB (rIsX K E a d) (tCons (tVar 1) (tCons (tC (.ref (cs 7))) tNil))) (tCons (tCB (rIsX K E a d) (tCons (tVar 1) (tCons (tC (.ref (cs 8))) tNil))) (tCons (tCB (rIsX K E a d) (tCons (tVar 1) (tCons (tC (.ref (cs 9))) tNil))) tNil))))) (gName 2))
    (tSeq (tAsg (tOp rCat (tVar 2) (tLst (tCons (tCB (rIsX K E a d) (tCons (tVar 1) (tCons (tC (.ref (cs 10))) tNil))) tNil))) (gName 2))
    (tSeq (tIfS (tOr (tTest (tOp rNe (tBM K "list" (rCntF K) (tVar 2) (tCons (tC (.bl true)) tNil)) (tC (.int 1)))) (tNot (tB (tCB (rIsX K E a d) (tCons (tVar 1) (tCons (tC (.ty "ValueError")) tNil)))))) (tRet (tTup (tCons (tC (.str "other")) (tCons (tC (.int 0)) tNil)))) tNext)
    (tSeq (tAsg (tLst (tCons (tC (.str "tick")) (tCons (tC (.str "number")) (tCons (tC (.str "none")) (tCons (tC (.str "long")) (tCons (tC (.str "endless")) (tCons (tC (.str "contradiction")) (tCons (tC (.str "name")) (tCons (tC (.str "unknown")) (tCons (tC (.str "row")) (tCons (tC (.str "text")) tNil))))))))))) (gName 3))
    (tSeq (tAsg (tOp (rIxL K) (tOp rCat (tVar 3) (tLst (tCons (tC (.str "operation")) tNil))) (tBM K "list" (rIndex K) (tVar 2) (tCons (tC (.bl true)) tNil))) (gName 4))
    (tSeq (tIfS (tTest (tOp rEq (tVar 4) (tC (.str "row")))) (tRet (tTup (tCons (tPer 4) (tCons (tTup (tCons (tXf a (.ref E) d E "part" (tVar 1)) (tCons (tXf a (.ref E) d E "index" (tVar 1)) tNil))) tNil)))) tNext)
    (tSeq (tIfS (tTest (tOp rEq (tVar 4) (tC (.str "text")))) (tRet (tTup (tCons (tPer 4) (tCons (tXf a (.ref E) d E "word" (tVar 1)) tNil)))) tNext)
    (tRet (tTup (tCons (tPer 4) (tCons (tIf (tTest (tOp rEq (tVar 4) (tC (.str "operation")))) (tXf a (.ref E) d E "place" (tVar 1)) (tC (.int 0))) tNil))))))))))))))
structure XfE (K : PySem.W.Frag) (E : Addr) : Prop where
  ec : ExcC K E
  xf : XfC K E
  no : ∀ n, n ∈ (["part", "index", "word", "place"] : List Str) → PySem.W.findIn K (.ref E) n = some none
structure ErrX (K : PySem.W.Frag) (cs : Nat → Addr) (i : Nat) : Prop extends XfE K (cs i) where
  kt : ∀ j, j < 11 → PySem.W.kitOne K (.ref (cs i)) (.ref (cs j)) = some (decide (j = i))
  kv : PySem.W.kitOne K (.ref (cs i)) (.type "ValueError") = some true
  hi : i < 11
def xName (i : Nat) : Str := (["tick", "number", "none", "long", "endless", "contradiction", "name", "unknown", "row", "text", "operation"] : List Str).getD i ""
def xFlds (i : Nat) : List Str := if i = 8 then ["part", "index"] else if i = 9 then ["word"] else if i = 10 then ["place"] else []
theorem xFlds_lt {i : Nat} (h : i < 8) : xFlds i = [] := by unfold xFlds; rw [if_neg (by omega), if_neg (by omega), if_neg (by omega)]
def ExnV (H : Hp) (i : Nat) (es : List V) (d : Option Addr) : Prop := es.length = (xFlds i).length ∧ (if xFlds i = [] then d = none else ∃ dd fs, d = some dd ∧ H dd = some (.xd fs) ∧ ∀ (k : Nat) n v, (xFlds i)[k]? = some n → es[k]? = some v → fs.lookup n = some v)
def Told (H : Hp) (p : Addr) (i : Nat) (es : List V) : Prop := match es with
  | [] => H p = some (.tup [.str (xName i), .int 0])
  | [v] => H p = some (.tup [.str (xName i), v])
  | es => ∃ q, H q = some (.tup es) ∧ H p = some (.tup [.str (xName i), .ref q])
theorem xkinds_cnt : ∀ i, i < 11 → ((kindsL i).countP fun z => eqV z (.bl true)) = 1 := by decide
theorem xkinds_no : ∀ i, i < 11 → ∀ m, m < i → eqV ((kindsL i).getD m .non) (.bl true) = false := by decide
theorem xkinds_at : ∀ i, i < 11 → (kindsL i)[i]? = some (.bl true) := fun i h => by
  match i, h with
  | 0, _ | 1, _ | 2, _ | 3, _ | 4, _ | 5, _ | 6, _ | 7, _ | 8, _ | 9, _ | 10, _ => rfl
theorem xnames_at : ∀ i : Nat, i < 11 → atI (namesL ++ [V.str "operation"]) (i : Int) = some (V.str (xName i)) := fun i h => by
  match i, h with
  | 0, _ | 1, _ | 2, _ | 3, _ | 4, _ | 5, _ | 6, _ | 7, _ | 8, _ | 9, _ | 10, _ => rfl
theorem xname_ne : ∀ i, i < 8 → xName i ≠ "row" ∧ xName i ≠ "text" ∧ xName i ≠ "operation" := by decide
section
variable {K : PySem.W.Frag} {E a c : Addr} {d : Option Addr} {cs : Nat → Addr} {σ : L2.St} {H : Hp} {Q : VK} {b : Bool}
theorem isX_i (h1 : σ[1]? = some (some (.ref a))) (hk : PySem.W.kitOne K (.ref E) (.ref c) = some b) (hd : ∀ dd, d = some dd → ∃ fs, H dd = some (.xd fs)) (h : Q (.bl b) H) : tCB (rIsX K E a d) (tCons (tVar 1) (tCons (tC (.ref c)) tNil)) σ H Q :=
  ⟨.ref a, h1, .ref c, .ref c, b, rfl, fun u r => r, hk, hd, h⟩
theorem isXV_i (h1 : σ[1]? = some (some (.ref a))) (hk : PySem.W.kitOne K (.ref E) (.type "ValueError") = some b) (hd : ∀ dd, d = some dd → ∃ fs, H dd = some (.xd fs)) (h : Q (.bl b) H) : tCB (rIsX K E a d) (tCons (tVar 1) (tCons (tC (.ty "ValueError")) tNil)) σ H Q :=
  ⟨.ref a, h1, .ty "ValueError", .type "ValueError", b, rfl, fun u r => r, hk, hd, h⟩
end
theorem rdErrX {K : PySem.W.Frag} {a : Addr} {d : Option Addr} {cs : Nat → Addr} {i : Nat} {es : List V} (n : ErrX K cs i) {x u2 u3 u4 : Option V} {H : Hp} {D : Ends} (hv : ExnV H i es d) (h : ∀ H' p, Ex H H' → Told H' p i es → D.rt (.ref p) H') : tErrX K (cs i) a d cs D [x, some (.ref a), u2, u3, u4] H := by
  have dd0 : ∀ {H' : Hp}, Ex H H' → ∀ dd, d = some dd → ∃ fs, H' dd = some (.xd fs) := fun e dd hd => by
    have hv2 := hv.2
    split at hv2
    · rw [hv2] at hd; cases hd
    · obtain ⟨dd', fs, e1, e2, _⟩ := hv2
      rw [e1] at hd; cases hd
      exact ⟨fs, e _ _ e2⟩
  have k := fun j hj => n.kt j hj
  have sz : ∀ {n : Nat}, n ≤ 100 → n ≤ sizeLine := fun h => Nat.le_trans h (by decide)
  unfold tErrX
  refine isX_i rfl (k 0 (by decide)) (dd0 (Ex.refl _)) ?_
  refine isX_i rfl (k 1 (by decide)) (dd0 (Ex.refl _)) ?_
  refine isX_i rfl (k 2 (by decide)) (dd0 (Ex.refl _)) ?_
  refine And.intro (sz (by simp)) (fun p1 n1 => ?_)
  generalize hX1 : upd _ p1 _ = H1
  have x1 := ex_of hX1 n1
  have a1 := at_of hX1
  clear hX1
  refine ⟨_, rfl, ?_⟩
  refine isX_i rfl (k 3 (by decide)) (dd0 x1) ?_
  refine isX_i rfl (k 4 (by decide)) (dd0 x1) ?_
  refine isX_i rfl (k 5 (by decide)) (dd0 x1) ?_
  refine And.intro (sz (by simp)) (fun q3 m3 => ?_)
  generalize hX2 : upd _ q3 _ = H2
  have x2 := ex_of hX2 m3
  have b2 := at_of hX2
  clear hX2
  have a2 := x2 _ _ a1
  refine ⟨_, _, _, _, rfl, rfl, a2, b2, sz (by simp), fun r3 o3 => ?_⟩
  generalize hX3 : upd _ r3 _ = H3
  have x3 := ex_of hX3 o3
  have a3 := at_of hX3
  clear hX3
  refine ⟨_, rfl, ?_⟩
  refine isX_i rfl (k 6 (by decide)) (dd0 (x1.trans (x2.trans x3))) ?_
  refine And.intro (sz (by simp)) (fun q4 m4 => ?_)
  generalize hX4 : upd _ q4 _ = H4
  have x4 := ex_of hX4 m4
  have b4 := at_of hX4
  clear hX4
  have a4 := x4 _ _ a3
  refine ⟨_, _, _, _, rfl, rfl, a4, b4, sz (by simp), fun r4 o4 => ?_⟩
  generalize hX5 : upd _ r4 _ = H5
  have x5 := ex_of hX5 o4
  have a5 := at_of hX5
  clear hX5
  refine ⟨_, rfl, ?_⟩
  refine isX_i rfl (k 7 (by decide)) (dd0 (x1.trans (x2.trans (x3.trans (x4.trans x5))))) ?_
  refine isX_i rfl (k 8 (by decide)) (dd0 (x1.trans (x2.trans (x3.trans (x4.trans x5))))) ?_
  refine isX_i rfl (k 9 (by decide)) (dd0 (x1.trans (x2.trans (x3.trans (x4.trans x5))))) ?_
  refine And.intro (sz (by simp)) (fun q5 m5 => ?_)
  generalize hX6 : upd _ q5 _ = H6
  have x6 := ex_of hX6 m5
  have b6 := at_of hX6
  clear hX6
  have a6 := x6 _ _ a5
  refine ⟨_, _, _, _, rfl, rfl, a6, b6, sz (by simp), fun r5 o5 => ?_⟩
  generalize hX7 : upd _ r5 _ = H7
  have x7 := ex_of hX7 o5
  have a7 := at_of hX7
  clear hX7
  refine ⟨_, rfl, ?_⟩
  refine isX_i rfl (k 10 (by decide)) (dd0 (x1.trans (x2.trans (x3.trans (x4.trans (x5.trans (x6.trans x7))))))) ?_
  refine And.intro (sz (by simp)) (fun q6 m6 => ?_)
  generalize hX8 : upd _ q6 _ = H8
  have x8 := ex_of hX8 m6
  have b8 := at_of hX8
  clear hX8
  have a8 := x8 _ _ a7
  refine ⟨_, _, _, _, rfl, rfl, a8, b8, sz (by simp), fun r6 o6 => ?_⟩
  generalize hX9 : upd _ r6 _ = H9
  have x9 := ex_of hX9 o6
  have a9 := at_of hX9
  clear hX9
  change H9 r6 = some (.lst (kindsL i)) at a9
  have hi := n.hi
  refine ⟨_, rfl, .inl ⟨rfl, _, lOf a9⟩, ?_⟩
  refine ⟨_, _, _, rfl, rfl, lOf a9, rfl, kinds_flat, ?_⟩
  rw [xkinds_cnt i hi]
  refine ⟨rfl, _, rfl, ?_⟩
  refine Eq.mpr (if_neg (by simp)) ?_
  refine isXV_i rfl n.kv (dd0 (x1.trans (x2.trans (x3.trans (x4.trans (x5.trans (x6.trans (x7.trans (x8.trans x9))))))))) ?_
  refine ⟨_, rfl, ?_⟩
  refine Eq.mpr (if_neg (by simp)) ?_
  refine And.intro (sz (by simp)) (fun p10 n10 => ?_)
  generalize hX10 : upd _ p10 _ = H10
  have x10 := ex_of hX10 n10
  have c10 := at_of hX10
  clear hX10
  change H10 p10 = some (.lst namesL) at c10
  have a10 := x10 _ _ a9
  refine ⟨_, rfl, ?_⟩
  refine And.intro (sz (by simp)) (fun p11 n11 => ?_)
  generalize hX11 : upd _ p11 _ = H11
  have x11 := ex_of hX11 n11
  have b11 := at_of hX11
  clear hX11
  have c11 := x11 _ _ c10
  have a11 := x11 _ _ a10
  refine ⟨_, _, _, _, rfl, rfl, c11, b11, sz (by decide), fun p12 n12 => ?_⟩
  generalize hX12 : upd _ p12 _ = H12
  have x12 := ex_of hX12 n12
  have d12 := at_of hX12
  clear hX12
  have a12 := x12 _ _ a11
  refine ⟨_, rfl, .inl ⟨rfl, _, lOf a12⟩, ?_⟩
  refine ⟨_, kindsL i, .bl true, i, .bl true, rfl, rfl, lOf a12, rfl, kinds_flat, xkinds_at i hi, rfl, fun m z hm hz => ?_, ?_⟩
  · have := xkinds_no i hi m hm
    rw [List.getD_eq_getElem?_getD, hz] at this
    exact this
  refine ⟨_, _, _, _, rfl, rfl, lOf d12, xnames_at i hi, ?_⟩
  have ee := (x1.trans (x2.trans (x3.trans (x4.trans (x5.trans (x6.trans (x7.trans (x8.trans (x9.trans (x10.trans (x11.trans x12)))))))))))
  by_cases h8 : i < 8
  · have nn := xname_ne i h8
    have e0 : es = [] := List.eq_nil_of_length_eq_zero (by rw [hv.1, xFlds_lt h8]; rfl)
    subst e0
    refine ⟨_, rfl, rfl, _, rfl, ?_⟩
    refine Eq.mpr (if_neg (by simp [nn.1])) ?_
    refine ⟨_, rfl, rfl, _, rfl, ?_⟩
    refine Eq.mpr (if_neg (by simp [nn.2.1])) ?_
    refine ⟨_, rfl, ?_⟩
    refine ⟨_, rfl, rfl, _, rfl, ?_⟩
    refine Eq.mpr (if_neg (by simp [nn.2.2])) ?_
    refine And.intro (sz (by simp)) (fun p13 n13 => ?_)
    exact h _ p13 (ee.trans (Ex.new n13)) upd_same
  have hv2 := hv.2
  have hl := hv.1
  rcases (show i = 8 ∨ i = 9 ∨ i = 10 by omega) with rfl | rfl | rfl
  · rw [if_neg (by decide)] at hv2
    obtain ⟨dd, fs, rfl, hx, hf⟩ := hv2
    obtain ⟨v, w, rfl⟩ : ∃ v w, es = [v, w] := by match es, hl with | [v, w], _ => exact ⟨v, w, rfl⟩
    refine ⟨_, rfl, rfl, _, rfl, ?_⟩
    refine Eq.mpr (if_pos (by decide)) ?_
    refine ⟨_, rfl, _, rfl, rfl, rfl, dd, fs, v, rfl, ee _ _ hx, hf 0 _ _ rfl rfl, ?_⟩
    refine ⟨_, rfl, rfl, rfl, dd, fs, w, rfl, ee _ _ hx, hf 1 _ _ rfl rfl, ?_⟩
    refine And.intro (sz (by simp)) (fun p13 n13 => ?_)
    refine And.intro (sz (by simp)) (fun p14 n14 => ?_)
    refine h _ p14 (ee.trans ((Ex.new n13).trans (Ex.new n14))) ⟨p13, ?_, upd_same⟩
    exact Ex.new n14 _ _ upd_same
  · rw [if_neg (by decide)] at hv2
    obtain ⟨dd, fs, rfl, hx, hf⟩ := hv2
    obtain ⟨v, rfl⟩ : ∃ v, es = [v] := by match es, hl with | [v], _ => exact ⟨v, rfl⟩
    refine ⟨_, rfl, rfl, _, rfl, ?_⟩
    refine Eq.mpr (if_neg (by decide)) ?_
    refine ⟨_, rfl, rfl, _, rfl, ?_⟩
    refine Eq.mpr (if_pos (by decide)) ?_
    refine ⟨_, rfl, _, rfl, rfl, rfl, dd, fs, v, rfl, ee _ _ hx, hf 0 _ _ rfl rfl, ?_⟩
    refine And.intro (sz (by simp)) (fun p13 n13 => ?_)
    exact h _ p13 (ee.trans (Ex.new n13)) upd_same
  · rw [if_neg (by decide)] at hv2
    obtain ⟨dd, fs, rfl, hx, hf⟩ := hv2
    obtain ⟨v, rfl⟩ : ∃ v, es = [v] := by match es, hl with | [v], _ => exact ⟨v, rfl⟩
    refine ⟨_, rfl, rfl, _, rfl, ?_⟩
    refine Eq.mpr (if_neg (by decide)) ?_
    refine ⟨_, rfl, rfl, _, rfl, ?_⟩
    refine Eq.mpr (if_neg (by decide)) ?_
    refine ⟨_, rfl, ?_⟩
    refine ⟨_, rfl, rfl, _, rfl, ?_⟩
    refine Eq.mpr (if_pos (by decide)) ?_
    refine ⟨_, rfl, rfl, rfl, dd, fs, v, rfl, ee _ _ hx, hf 0 _ _ rfl rfl, ?_⟩
    refine And.intro (sz (by simp)) (fun p13 n13 => ?_)
    exact h _ p13 (ee.trans (Ex.new n13)) upd_same

def TErrX (K : PySem.W.Frag) (CT : Addr) (cs : Nat → Addr) : (XK → Hp → VK → Prop) → Hp → VK → Prop := fun tl H Q =>
  tl (fun cls d H' => ∃ i es, cls = .ref (cs i) ∧ ExnV H' i es d ∧ ErrX K cs i ∧ PySem.W.exmOne K (.ref (cs i)) (.ref CT) = some true ∧ ∀ H'' p, Ex H' H'' → Told H'' p i es → Q (.ref p) H'') H fun _ H' => Q .non H'
abbrev errNx (ev : Str) : List Str := ["_law_call", ev, "_law_kinds", "_law_names", "_law_name"]
theorem err_givesX {X : Cx} {sg : Scope} {g CT : Addr} {ev : Str} {cs : Nat → Addr} {cdg : Value} {q : Str} {b₀ : Stmt} {suite : List Stmt} {j : Nat} {p1 p2 p3 p4 p5 p6 p7 p8 : Pos} (hev : (errNx ev).Nodup) (hge : sg.names.lookup ("TrackError" : Str) = some NameKind.globalImplicit) (hme : X.mg "TrackError" = some (.ref CT)) (hln : sg.names.lookup ev = some NameKind.local)
    (hsu : ∀ (s : Shared) (H : Hp) (a : Addr) (oe : Obj) (E : Addr) (d : Option Addr) (pn : List (Addr × Obj)), XfE X.K E → Zc (.ref E) d oe → (∃ vs, oe.data = .fields vs) → PSs ((cxOf C8.CX0 X.prog X.w X.K X.mg X.base (errNx ev) "_law_error_of" sg g cdg X.A X.stack s H C8.E0).nox.suite a ((a, oe) :: pn)) (b₀ :: suite) (tErrX X.K E a d cs)) :
    GivesTo X (errNx ev) "_law_error_of" sg g cdg [.Try [.Expr (.Call (.Name "_law_call" p1) [] [] p2) p3] [.ExceptHandler (some (.Name "TrackError" p4)) (some ev) (b₀ :: suite) p5] [] [] p6, .Return (some (.Constant .none j p7)) p8] "_law_call" q (TErrX X.K CT cs) := by
  intro f c' s H Q tl act hc h
  have hgl : Gl (cxOf C8.CX0 X.prog X.w X.K X.mg X.base (errNx ev) "_law_error_of" sg g cdg X.A X.stack s H C8.E0).nox "TrackError" := hge
  refine ⟨_, pss_cons (ps_try_as (X := (cxOf C8.CX0 X.prog X.w X.K X.mg X.base (errNx ev) "_law_error_of" sg g cdg X.A X.stack s H C8.E0).nox) (i := 1) (c := .ref CT)
      (tb := fun W D σ H => ∃ Ech : XK, (∀ cls d σ' H', Ech cls d H' → W cls d σ' H') ∧ σ[0]? = some (some (.ref f)) ∧ H c' = some (CodeO c' q) ∧ tl Ech H fun _ H' => D.nx σ H')
      (ts := fun a cls d D σ H => σ.length = 5 → ∃ E, cls = .ref E ∧ XfE X.K E ∧ tErrX X.K E a d cs D σ H)
      rfl rfl (show (errNx ev).Nodup from hev) rfl (show sg.names.lookup ev = some NameKind.local from hln) ⟨hgl, by decide, .inl hme⟩ LamX.takes0 (fun W pn xe tk _ => ?_) (fun a oe cls d pn hz hf => ?_)) (pss_one (ps_ret pe_non)), ?_⟩
  · refine ⟨fun pins s' σ H' D I h' => ?_⟩
    obtain ⟨Ech, hW, h1, h2, h3⟩ := h'
    have hp := act W pn xe Ech p1 p2 tk hW
    have hq := pss_one (ps_expr (pos := p3) hp)
    exact hq.run pins s' σ H' D I ⟨h1, h2, h3⟩
  · refine ⟨fun pins s' σ H' D I h' => ?_⟩
    obtain ⟨E, rfl, hE, h'⟩ := h' I.len
    exact (hsu s H a oe E d pn hE hz hf).run pins s' σ H' D I h'
  · refine ⟨_, fun cls d σ' H' hh => ?_, rfl, hc, h⟩
    obtain ⟨i, es, rfl, hv, n, ex, hq⟩ := hh
    refine ⟨true, ex, fun _ a _ hl => ?_, fun z => nomatch z⟩
    refine ⟨cs i, rfl, n.toXfE, ?_⟩
    match σ', hl with
    | [x, y, u2, u3, u4], _ => exact rdErrX n hv hq
end TkL


namespace TkL
open PySem PySem.Spec PySem.Calls PyProof.Rows L2 Tk LamX
def ExnAt (K : PySem.W.Frag) (C : Addr) (dO : Option Addr) (cs : Nat → Addr) (F : Hp) (j : Nat) (es : List D) (c : Value) (d : Option Addr) : Prop := c = .ref (cs j) ∧ ∃ vs, ExnV F j vs d ∧ Reps K C dO F vs es
theorem ExnV.ex {F F' : Hp} {j : Nat} {vs : List V} {d : Option Addr} (h : ExnV F j vs d) (e : Ex F F') : ExnV F' j vs d := by
  refine ⟨h.1, ?_⟩
  have h2 := h.2
  split at h2
  · rename_i c; rw [if_pos c]; exact h2
  · rename_i c
    rw [if_neg c]
    obtain ⟨dd, fs, e1, e2, e3⟩ := h2
    exact ⟨dd, fs, e1, e _ _ e2, e3⟩
theorem ExnAt.ex {K : PySem.W.Frag} {C : Addr} {dO : Option Addr} {cs : Nat → Addr} {F F' : Hp} {j : Nat} {es : List D} {c : Value} {d : Option Addr} (h : ExnAt K C dO cs F j es c d) (e : Ex F F') : ExnAt K C dO cs F' j es c d := by
  obtain ⟨a, vs, b, r⟩ := h
  exact ⟨a, vs, b.ex e, r.ex e⟩
def HE (B : Bs) (cs : Nat → Addr) (E : XK) (Wu : Nat → List D → Env → Prop) : Prop := ∀ j es H F σ ρ c d, RelF B H F σ ρ → ExnAt B.K B.C B.dO cs F j es c d → Wu j es ρ → E c d H
abbrev UEX := List D → (D → Prop) → (Nat → List D → Prop) → Prop
def spE (K : PySem.W.Frag) (C : Addr) (cs : Nat → Addr) (g : UEX) : Sp := fun vs H Q E => ∃ dO F ds P PX, RelH ⟨K, C, dO, H, F, []⟩ H F ∧ Reps K C dO F vs ds ∧ g ds P PX ∧
  (∀ d H' F' v, P d → RelH ⟨K, C, dO, H, F, []⟩ H' F' → Rep K C dO F' v d → Q v H') ∧ (∀ j es c d H' F', PX j es → RelH ⟨K, C, dO, H, F, []⟩ H' F' → ExnAt K C dO cs F' j es c d → E c d H')
section
variable {K : PySem.W.Frag} {C : Addr} {cs : Nat → Addr} {vs : List V} {H : Hp} {Q : VK} {E : XK} {g : UEX} {up : UP}
theorem len_of_spE {n : Nat} (hl : ∀ ds P PX, g ds P PX → ds.length = n) (h : spE K C cs g vs H Q E) : vs.length = n := by
  obtain ⟨dO, F, ds, P, PX, R, r, hg, _⟩ := h
  rw [r.len]; exact hl ds P PX hg
theorem rd_of_simE {N : List Str} {t : XK → TS} {u : (Nat → List D → Env → Prop) → US} (S : ∀ (B : Bs) (E : XK) Wu, B.K = K → B.C = C → HE B cs E Wu → SimS B (t E) (u Wu)) (hl : ∀ ds P PX, g ds P PX → ds.length ≤ N.length)
    (hr : ∀ ds P PX, g ds P PX → u (fun j es _ => PX j es) { nx := fun _ => P .non, rt := P, bk := fun _ => False, ct := fun _ => False } (startU N ds)) (h : spE K C cs g vs H Q E) : t E { nx := fun _ H' => Q .non H', rt := Q } (L2.start N vs) H := by
  obtain ⟨dO, F, ds, P, PX, R, r, hg, kP, kX⟩ := h
  have RF := startU_rel (hl ds P PX hg) R r
  refine S ⟨K, C, dO, H, F, []⟩ E (fun j es _ => PX j es) rfl rfl (fun j es H' F' σ' ρ' c d R' x p => kX j es c d H' F' p R'.toRelH x) H F _ _ _ _ RF (hr ds P PX hg) ⟨?_, ?_, ?_, ?_⟩
  · exact fun H' F' σ' ρ' e R' p => kP .non H' F' .non p R'.toRelH .non
  · exact fun H' F' v d e R' rp p => kP d H' F' v p R' rp
  · exact fun _ _ _ _ _ _ p => p.elim
  · exact fun _ _ _ _ _ _ p => p.elim
end
theorem passN {P : Program} {w : World} {K : PySem.W.Frag} {mg : Str → Option Value} {base : Heap} {N : List Str} {q : Str} {sc : Scope} {f : Addr} {c : Value} {A : Around} {outer : List PySem.Env} {s : Shared} {H : Hp} {E : XK} : Passes (L2N.CX P w) (cxOf (L2N.CX P w) P w K mg base N q sc f c A outer s H E) E :=
  fun pins σ H' s' e s1 I h => L2N.takes_of (X := cxOf (L2N.CX P w) P w K mg base N q sc f c A outer s H E) rfl rfl rfl rfl e s1 (L2N.XE.of_call (W := fun c d _ H => E c d H) I (fun _ _ _ h => h) h)
def uRaiseE (j : Nat) (a : UA) (Wu : Nat → List D → Env → Prop) : US := fun P ρ => a ρ fun ds ρ1 => ds.length = (xFlds j).length ∧ Wu j ds ρ1
theorem e_raiseE {j : Nat} {a : UA} {Wu : Nat → List D → Env → Prop} {P : UEnds} {ρ : Env} : uRaiseE j a Wu P ρ = a ρ fun ds ρ1 => ds.length = (xFlds j).length ∧ Wu j ds ρ1 := rfl
structure OexJ (K : PySem.W.Frag) (cs : Nat → Addr) (j : Nat) : Prop where
  ox : OexC K (cs j)
  no : ∀ n ∈ xFlds j, PySem.W.findIn K (.ref (cs j)) n = some none
section
variable {B : Bs} {cs : Nat → Addr} {E : XK} {Wu : Nat → List D → Env → Prop} {A : TA} {U : UA} {j : Nat}
theorem sS_raiseX (hE : HE B cs E Wu) (T : OexJ B.K cs j) (hj : xFlds j ≠ []) (hA : SimP B A U) : SimS B (tRaiseX (cs j) (spXI B.K (xFlds j)) A fun c d _ H => E c d H) (uRaiseE j U Wu) := fun H F σ ρ D1 P R hu k =>
  hA H F σ ρ _ _ R hu fun H1 F1 vs ds ρ1 e1 k1 R1 r1 p1 => by
    obtain ⟨hl, p1⟩ := p1
    have hv : vs.length = (xFlds j).length := by rw [r1.len, hl]
    have hx : (xFlds j).length ≤ 2 := by unfold xFlds; split <;> (try split) <;> (try split) <;> decide
    refine ⟨by omega, fun a ha => ⟨a, cs j, vs, by rw [List.append_nil], hv, T.ox, T.no, upd_same, fun H2 dx fs e2 e3 hd hn hk hf => ?_⟩⟩
    rw [upd_ne hn] at hd
    refine ⟨rfl, dx, fs, e2, e3, hd, ?_⟩
    have eq : upd (L2.del H2 a) dx (.xd fs) = upd H1 dx (.xd fs) := by
      funext b
      by_cases c1 : b = dx
      · rw [c1, upd_same, upd_same]
      · rw [upd_ne c1, upd_ne c1]
        by_cases c2 : b = a
        · rw [c2, L2.del_same, ha]
        · rw [L2.del_ne c2, hk b c2 c1, upd_ne c2]
    rw [eq]
    have s := St1.growE R1.toRelH (Ex.new (o := .xd fs) hd)
    have hg : growF F1 H1 (upd H1 dx (.xd fs)) dx = some (.xd fs) := by
      unfold growF
      rw [if_neg, upd_same]
      rintro (⟨q, _⟩ | ⟨ps, q⟩)
      · exact q hd
      · rw [upd_same] at q; cases q
    exact hE j ds _ _ σ ρ1 _ _ (s.rel _ _ R1) ⟨rfl, vs, ⟨hv, by rw [if_neg hj]; exact ⟨dx, fs, rfl, hg, hf⟩⟩, r1.ex s.ex⟩ p1
end
def SimRE (B : Bs) (cs : Nat → Addr) (t : XK → TE) (u : Env → (D → Env → Prop) → (Nat → List D → Env → Prop) → Prop) : Prop := ∀ H F σ ρ (E : XK) (Q : VK) (P : D → Env → Prop) (PX : Nat → List D → Env → Prop), RelF B H F σ ρ → u ρ P PX →
  (∀ H' F' v d ρ', Ex F F' → Kx B σ H F ρ H' F' ρ' → RelF B H' F' σ ρ' → Rep B.K B.C B.dO F' v d → P d ρ' → Q v H') →
  (∀ H' F' j es c d ρ', Ex F F' → Kx B σ H F ρ H' F' ρ' → RelF B H' F' σ ρ' → ExnAt B.K B.C B.dO cs F' j es c d → PX j es ρ' → E c d H') → t E σ H Q
abbrev UCE := Env → (D → Env → Prop) → (Nat → List D → Env → Prop) → Prop
def uCE (g : UEX) (a : UA) : UCE := fun ρ P PX => a ρ fun ds ρ1 => g ds (fun d => P d ρ1) fun j es => PX j es ρ1
def uCEr (g : UEX) (f : UE) (a : UA) : UCE := fun ρ P PX => f ρ fun y ρ1 => (∃ r, y = .row r) ∧ a ρ1 fun ds ρ2 => g (y :: ds) (fun d => P d ρ2) fun j es => PX j es ρ2
def uCEc (g : UEX) (a : UA) : UCE := fun ρ P PX => a ρ fun ds ρ1 => g (.cls :: ds) (fun d => P d ρ1) fun j es => PX j es ρ1
def uTry1 (u : UCE) (Wu : Nat → List D → Env → Prop) : UE := fun ρ P => u ρ P Wu
def tellD (j : Nat) (es : List D) : D := .tup [.str (xName j), match es with | [] => .int 0 | [d] => d | d :: d' :: es => .tup (d :: d' :: es)]
def uTellE (js : List Nat) (u : UCE) : UE := fun ρ P => u ρ (fun _ ρ' => P .non ρ') fun j es ρ' => j ∈ js ∧ P (tellD j es) ρ'
theorem e_ce {g : UEX} {a : UA} {ρ : Env} {P : D → Env → Prop} {PX : Nat → List D → Env → Prop} : uCE g a ρ P PX = a ρ fun ds ρ1 => g ds (fun d => P d ρ1) fun j es => PX j es ρ1 := rfl
theorem e_cer {g : UEX} {f : UE} {a : UA} {ρ : Env} {P : D → Env → Prop} {PX : Nat → List D → Env → Prop} : uCEr g f a ρ P PX = f ρ fun y ρ1 => (∃ r, y = .row r) ∧ a ρ1 fun ds ρ2 => g (y :: ds) (fun d => P d ρ2) fun j es => PX j es ρ2 := rfl
theorem e_cec {g : UEX} {a : UA} {ρ : Env} {P : D → Env → Prop} {PX : Nat → List D → Env → Prop} : uCEc g a ρ P PX = a ρ fun ds ρ1 => g (.cls :: ds) (fun d => P d ρ1) fun j es => PX j es ρ1 := rfl
theorem e_try1 {u : UCE} {Wu : Nat → List D → Env → Prop} {ρ : Env} {P : D → Env → Prop} : uTry1 u Wu ρ P = u ρ P Wu := rfl
theorem e_tellE {js : List Nat} {u : UCE} {ρ : Env} {P : D → Env → Prop} : uTellE js u ρ P = u ρ (fun _ ρ' => P .non ρ') fun j es ρ' => j ∈ js ∧ P (tellD j es) ρ' := rfl
section
variable {B : Bs} {cs : Nat → Addr} {E : XK} {Wu : Nat → List D → Env → Prop} {A : TA} {U : UA} {j : Nat} {g : UEX} {t : XK → TE} {u : UCE} {tf : TE} {uf : UE} {CT : Addr}
theorem spE_call {H F : Hp} {σ : L2.St} {ρ : Env} {vs : List V} {ds : List D} {Q : VK} {E : XK} {P : D → Prop} {PX : Nat → List D → Prop} (R : RelF B H F σ ρ) (r : Reps B.K B.C B.dO F vs ds) (h : g ds P PX)
    (kP : ∀ H' F' v d, St1 B H F H' F' → RelF B H' F' σ ρ → Rep B.K B.C B.dO F' v d → P d → Q v H') (kX : ∀ H' F' j es c d, St1 B H F H' F' → RelF B H' F' σ ρ → ExnAt B.K B.C B.dO cs F' j es c d → PX j es → E c d H') : spE B.K B.C cs g vs H Q E :=
  ⟨B.dO, F, ds, P, PX, R.toRelH.start, r, h, fun d H3 F3 v p R3 rp => by
    have st := R.toRelH.st1 R3
    exact kP H3 F3 v d st (st.rel _ _ R) rp p, fun j es c d H3 F3 p R3 x => by
    have st := R.toRelH.st1 R3
    exact kX H3 F3 j es c d st (st.rel _ _ R) x p⟩
theorem sRE_def (hA : SimXP B A U) : SimRE B cs (fun E => tDef (spE B.K B.C cs g) E A) (uCE g U) := fun H F σ ρ E Q P PX R hu kP kX =>
  hA H F σ ρ _ _ R hu fun H1 F1 vs ds ρ1 e1 k1 R1 r1 p1 => spE_call R1 r1 p1
    (fun H2 F2 v d s R2 rp p => kP H2 F2 v d ρ1 (e1.trans s.ex) (k1.trans ((s.kq R1).x (s.relH R1.toRelH))) R2 rp p)
    (fun H2 F2 j es c d s R2 x p => kX H2 F2 j es c d ρ1 (e1.trans s.ex) (k1.trans ((s.kq R1).x (s.relH R1.toRelH))) R2 x p)
theorem sX_try1 (h : SimRE B cs t u) (hE : HE B cs E Wu) : SimX B (t E) (uTry1 u Wu) := fun H F σ ρ Q P R hu k =>
  h H F σ ρ E Q P Wu R hu k fun H' F' j es c d ρ' e kx R' x p => hE j es H' F' σ ρ' c d R' x p
theorem told_rep {H F : Hp} {p : Addr} {j : Nat} {vs : List V} {es : List D} (R : RelH B H F) (r : Reps B.K B.C B.dO F vs es) (h : Told H p j vs) (hf : ∀ q ws, H q = some (.tup ws) → F q = some (.tup ws)) : Rep B.K B.C B.dO F (.ref p) (tellD j es) := by
  unfold tellD
  cases r with
  | nil => exact .tup (tOf (hf _ _ h)) (.cons .str (.cons .int .nil))
  | cons r1 r2 =>
    cases r2 with
    | nil => exact .tup (tOf (hf _ _ h)) (.cons .str (.cons r1 .nil))
    | cons r3 r4 =>
      obtain ⟨q, hq, hp⟩ := h
      exact .tup (tOf (hf _ _ hp)) (.cons .str (.cons (.tup (tOf (hf _ _ hq)) (.cons r1 (.cons r3 r4))) .nil))
end
end TkL


namespace TkL
open PySem PySem.Spec PySem.Calls PyProof.Rows L2 Tk LamX
def tRaiseF (K : PySem.W.Frag) (cs : Nat → Addr) (j : Nat) (ta : TA) (E : XK) : TS := tRaiseX (cs j) (spXI K (xFlds j)) ta fun c d _ H => E c d H
structure XMk (P : Program) (w : World) (K : PySem.W.Frag) (mg : Str → Option Value) (base : Heap) (cs : Nat → Addr) (j : Nat) (x : Str) : Prop where
  ox : OexJ K cs j
  ex : ∃ fI fd ps, PySem.W.findIn K (.ref (cs j)) "__init__" = some (some (.ref fI)) ∧ PySem.W.typeIn K (.ref fI) = some (.type "function") ∧ FnOk P w K mg base C8.CX0 1 fI fd ps (spXI K (xFlds j)) ∧ Binds K fd ps []
  gm : mg x = some (.ref (cs j))
theorem ps_raiseF {X : Cx} {cs : Nat → Addr} {j : Nat} {x : Str} {ta : TA} {E : XK} {e : Expr} {es : List Expr} {p pos pos' : Pos} (M : XMk X.prog X.w X.K X.mg X.base cs j x) (hr : Room 2 X.A) (hg : Gl X x) (hc : X.calm = true) (tk : L2N.Takes X fun c d _ H => E c d H) (ha : PA X (e :: es) ta)
    (hdb : (x == ("__debug__" : Str)) = false := by decide) (he : starEach (e :: es) X.env = (false, eval e X.env) :: starEach es X.env := by rfl) (hpl : (backTo pos (starEach es X.env)).any (·.1) = false := by rfl) :
    PS X (.Raise (some (.Call (.Name x p) (e :: es) [] pos)) none pos') (tRaiseF X.K cs j ta E) := by
  obtain ⟨fI, fd, ps, h1, h2, h3, h4⟩ := M.ex
  exact ps_raiseX hc tk (pmk_oexN M.ox.ox h1 h2 h3 hr h4 (fun _ _ _ _ _ _ _ z => z.elim) hg M.gm ha hdb he hpl)
theorem sS_raiseF {B : Bs} {cs : Nat → Addr} {E : XK} {Wu : Nat → List D → Env → Prop} {A : TA} {U : UA} {j : Nat} (hE : HE B cs E Wu) (T : OexJ B.K cs j) (hj : xFlds j ≠ []) (hA : SimP B A U) : SimS B (tRaiseF B.K cs j A E) (uRaiseE j U Wu) := sS_raiseX hE T hj hA
def chD (z : Str) : List D := z.cps.toList.map fun c => .str ⟨#[c]⟩
def uIStr (a : UE) : UI := fun ρ P => a ρ fun d ρ1 => match d with | .str z => P (chD z) ρ1 | _ => False
theorem e_istr {a : UE} {ρ : Env} {P : List D → Env → Prop} : uIStr a ρ P = a ρ fun d ρ1 => match d with | .str z => P (chD z) ρ1 | _ => False := rfl
theorem nx_nil {p : Nat → Prop} : ∀ j ∈ ([] : List Nat), p j := fun _ z => nomatch z
theorem nx_cons {p : Nat → Prop} {a : Nat} {l : List Nat} (h : p a) (hs : ∀ j ∈ l, p j) : ∀ j ∈ a :: l, p j := fun j hj => by
  rcases List.mem_cons.mp hj with rfl | hj
  · exact h
  · exact hs j hj
end TkL



namespace TkL
open PySem PySem.Spec PySem.Calls PyProof.Rows L2 Tk
section
variable (K : PySem.W.Frag) (C : Addr) (CJ : Addr) (cs : Nat → Addr) (E : XK)
end
end TkL


local macro_rules | `(tactic| walk_at "ewx") => do
  let nms (s : String) := (s.splitOn " ").toArray.map fun x => Lean.mkIdent x.toName
  let x1 := nms "TkL.e_istr TkL.e_raiseE TkL.e_try1 TkL.e_ce TkL.e_cer TkL.e_cec TkL.e_tellE TkL.e_fB TkL.e_fL TkL.e_fE TkL.e_fO TkL.e_never TkL.e_enum TkL.e_rng3 TkL.e_ext TkL.e_augI TkL.e_bor TkL.e_retO TkL.e_retNO TkL.e_par_ovv TkL.e_par_ov TkL.e_mk TkL.e_setI TkL.lcs_nil TkL.lcs_cons TkL.fors_nil TkL.fors_cons List.nil_append List.cons_append Nat.reduceLT"
  let t1 ← `(tactic| simp only [$[$x1:ident],*])
  `(tactic| repeat (first | ($t1:tactic) | walk_at "ew"))
namespace TkL
open PySem PySem.Spec PySem.Calls PyProof.Rows L2 Tk
end TkL


namespace TkL
open PySem PySem.Spec PySem.Calls PyProof.Rows L2 Tk
def PW (ws : List Str) (s : PSt) : Prop := match s.2 with
  | none => ws.map readN = s.1.map some
  | some b => b < ws.length ∧ b ≤ s.1.length ∧ (ws.drop (b + 1)).map readN = (s.1.drop b).map some
theorem PW.step {ws : List Str} {w : Str} {s t : PSt} (h : PW ws s) (e : stepP ws.length w s = some t) : PW (ws ++ [w]) t := by
  obtain ⟨ns, bar⟩ := s
  unfold stepP at e
  split at e
  · rename_i c
    obtain ⟨_, rfl, _⟩ := c
    cases e
    have hl : ns.length = ws.length := by
      have : (ws.map readN).length = (ns.map some).length := congrArg _ h
      rw [List.length_map, List.length_map] at this; exact this.symm
    refine ⟨by rw [List.length_append]; show ns.length < _; rw [hl]; simp, Nat.le_refl _, ?_⟩
    show ((ws ++ [w]).drop (ns.length + 1)).map readN = (ns.drop ns.length).map some
    rw [List.drop_of_length_le (by rw [List.length_append]; simp; omega), List.drop_length]; rfl
  · cases hr : readN w with
    | none => rw [hr] at e; cases e
    | some n =>
      rw [hr] at e
      dsimp only at e
      split at e
      · cases e
      cases bar with
      | none =>
        dsimp only at e
        split at e
        · cases e
        cases e
        show (ws ++ [w]).map readN = (ns ++ [n]).map some
        rw [List.map_append, List.map_append, show ws.map readN = ns.map some from h]
        simp [hr]
      | some b =>
        dsimp only at e
        split at e
        · cases e
        cases e
        obtain ⟨h1, h2, h3⟩ := h
        refine ⟨by rw [List.length_append]; omega, by show b ≤ (ns ++ [n]).length; rw [List.length_append]; dsimp only at h2; omega, ?_⟩
        show ((ws ++ [w]).drop (b + 1)).map readN = ((ns ++ [n]).drop b).map some
        rw [List.drop_append_of_le_length (by omega), List.drop_append_of_le_length h2, List.map_append, List.map_append, h3]
        simp [hr]
end TkL



namespace TkL
open PySem PySem.Spec PySem.Calls PyProof.Rows L2 Tk
section
variable (K : PySem.W.Frag) (C : Addr) (CJ : Addr) (CR : Addr) (T0 : Addr)
end
end TkL


namespace TkL
open PySem PySem.Spec PySem.Calls PyProof.Rows L2 Tk
end TkL


namespace TkL
open PySem PySem.Spec PySem.Calls PyProof.Rows L2 Tk LamX
def isSc : D → Prop
  | .int _ | .bl _ | .str _ | .non => True
  | _ => False
def uCEo (g : UEX) (a b : UE) : UCE := fun ρ P PX => a ρ fun x ρ1 => b ρ1 fun y ρ2 => (∃ r s, x = .row r ∧ y = .row s) ∧ g [x, y] (fun d => P d ρ2) fun j es => PX j es ρ2
def uCEv (g : UEX) (a b : UE) : UCE := fun ρ P PX => a ρ fun x ρ1 => b ρ1 fun y ρ2 => ((∃ r, x = .row r) ∧ isSc y) ∧ g [x, y] (fun d => P d ρ2) fun j es => PX j es ρ2
def uCEi (g : UEX) (a b : UE) : UCE := fun ρ P PX => a ρ fun x ρ1 => b ρ1 fun y ρ2 => (∃ r, x = .row r) ∧ g [x, y] (fun d => P d ρ2) fun j es => PX j es ρ2
theorem e_ceo {g : UEX} {a b : UE} {ρ : Env} {P : D → Env → Prop} {PX : Nat → List D → Env → Prop} : uCEo g a b ρ P PX = a ρ fun x ρ1 => b ρ1 fun y ρ2 => (∃ r s, x = .row r ∧ y = .row s) ∧ g [x, y] (fun d => P d ρ2) fun j es => PX j es ρ2 := rfl
theorem e_cev {g : UEX} {a b : UE} {ρ : Env} {P : D → Env → Prop} {PX : Nat → List D → Env → Prop} : uCEv g a b ρ P PX = a ρ fun x ρ1 => b ρ1 fun y ρ2 => ((∃ r, x = .row r) ∧ isSc y) ∧ g [x, y] (fun d => P d ρ2) fun j es => PX j es ρ2 := rfl
theorem e_cei {g : UEX} {a b : UE} {ρ : Env} {P : D → Env → Prop} {PX : Nat → List D → Env → Prop} : uCEi g a b ρ P PX = a ρ fun x ρ1 => b ρ1 fun y ρ2 => (∃ r, x = .row r) ∧ g [x, y] (fun d => P d ρ2) fun j es => PX j es ρ2 := rfl
section
variable {B : Bs} {cs : Nat → Addr} {A : TA} {U : UA} {g : UEX} {ta tb : TE} {ua ub : UE}
end
end TkL


namespace TkL
open PySem PySem.Spec PySem.Calls PyProof.Rows L2 Tk
def BadI (lo hi : Int) : D → Prop
  | .int t => ¬ (lo ≤ t ∧ t ≤ hi)
  | .bl _ | .non | .str _ | .tup _ => True
  | _ => False
theorem iii_badI {lo hi : Int} {d : D} {P : D → Prop} (h : BadI lo hi d) (p : P (.bl false)) : upIii [d, .int lo, .int hi] P := by
  refine ⟨_, _, _, rfl, ?_⟩
  cases d with
  | int t =>
    refine .inl ⟨t, rfl, ?_⟩
    have : (decide (lo ≤ t) && decide (t ≤ hi)) = false := by
      rw [← Bool.decide_and]; exact decide_eq_false h
    rw [this]; exact p
  | bl b => exact .inr (.inl ⟨.inl ⟨_, rfl⟩, p⟩)
  | non => exact .inr (.inl ⟨.inr (.inl rfl), p⟩)
  | str z => exact .inr (.inl ⟨.inr (.inr ⟨_, rfl⟩), p⟩)
  | tup l => exact .inr (.inr ⟨⟨_, rfl⟩, p⟩)
  | _ => exact h.elim
end TkL



namespace TkL
open PySem PySem.Spec PySem.Calls PyProof.Rows L2 Tk
section
variable (K : PySem.W.Frag) (C : Addr) (CJ : Addr) (cs : Nat → Addr) (E : XK)
end
end TkL


local macro_rules | `(tactic| walk_at "ewy") => do
  let nms (s : String) := (s.splitOn " ").toArray.map fun x => Lean.mkIdent x.toName
  let x1 := nms "TkL.e_istr TkL.e_raiseE TkL.e_try1 TkL.e_ce TkL.e_cer TkL.e_cec TkL.e_ceo TkL.e_cev TkL.e_cei TkL.e_tellE TkL.e_fB TkL.e_fL TkL.e_fE TkL.e_fO TkL.e_never TkL.e_enum TkL.e_rng3 TkL.e_ext TkL.e_augI TkL.e_bor TkL.e_retO TkL.e_retNO TkL.e_par_ovv TkL.e_par_ov TkL.e_mk TkL.e_setI TkL.lcs_nil TkL.lcs_cons TkL.fors_nil TkL.fors_cons List.nil_append List.cons_append Nat.reduceLT"
  let t1 ← `(tactic| simp only [$[$x1:ident],*])
  `(tactic| repeat (first | ($t1:tactic) | walk_at "ew"))
namespace TkL
open PySem PySem.Spec PySem.Calls PyProof.Rows L2 Tk
theorem iteT' {c : Bool} {A B : Prop} (h : c = true) (a : A) : if c = true then A else B := by rw [if_pos h]; exact a
theorem iteF' {c : Bool} {A B : Prop} (h : ¬ c = true) (a : B) : if c = true then A else B := by rw [if_neg h]; exact a
end TkL


namespace TkL
open PySem PySem.Spec PySem.Calls PyProof.Rows L2 Tk
def strD (l : List (Str × V)) : List (Key × V) := l.map fun p => (Sum.inr p.1, p.2)
def dictO : List (Str × V) → HO
  | [] => .dT []
  | p :: l => .dK (strD (p :: l))
def lookV (l : List (Str × V)) (z : Str) : Option V := (l.find? fun p => decide (p.1 = z)).map (·.2)
def putS {α : Type} (l : List (Str × α)) (z : Str) (v : α) : List (Str × α) := if (l.any fun p => decide (p.1 = z)) = true then l.map (fun p => if p.1 = z then (p.1, v) else p) else l ++ [(z, v)]
def dropS {α : Type} (l : List (Str × α)) (z : Str) : List (Str × α) := l.filter fun p => decide (p.1 ≠ z)
structure DicV (K : PySem.W.Frag) (C : Addr) (dO : Option Addr) (F : Hp) (lv : List (Str × V)) (l : List (Str × D)) : Prop where
  ks : lv.map (·.1) = l.map (·.1)
  vs : Reps K C dO F (lv.map (·.2)) (l.map (·.2))
def lookS {α : Type} (l : List (Str × α)) (z : Str) : Option α := (l.find? fun p => decide (p.1 = z)).map (·.2)
section
variable {K : PySem.W.Frag} {C : Addr} {dO : Option Addr} {F F' : Hp}
theorem DicV.ex {lv : List (Str × V)} {l : List (Str × D)} (h : DicV K C dO F lv l) (e : Ex F F') : DicV K C dO F' lv l := ⟨h.ks, h.vs.ex e⟩
theorem DicV.nil : DicV K C dO F [] [] := ⟨rfl, .nil⟩
theorem DicV.look : ∀ {lv : List (Str × V)} {l : List (Str × D)}, DicV K C dO F lv l → ∀ z, (∃ v d, lookV lv z = some v ∧ lookS l z = some d ∧ Rep K C dO F v d) ∨ (lookV lv z = none ∧ lookS l z = none)
  | [], [], _, z => .inr ⟨rfl, rfl⟩
  | (k, v) :: lv, (k', d) :: l, h, z => by
    have hk := List.cons.inj h.ks
    have ek : k = k' := hk.1
    subst ek
    cases h.vs with
    | cons r rs =>
      by_cases c : k = z
      · refine .inl ⟨v, d, ?_, ?_, r⟩
        · unfold lookV; rw [List.find?_cons_of_pos (by simpa using c)]; rfl
        · unfold lookS; rw [List.find?_cons_of_pos (by simpa using c)]; rfl
      · have ih := DicV.look (lv := lv) (l := l) ⟨hk.2, rs⟩ z
        unfold lookV lookS at ih ⊢
        rw [List.find?_cons_of_neg (by simpa using c), List.find?_cons_of_neg (by simpa using c)]
        exact ih
  | [], _ :: _, h, _ => by cases h.vs
  | _ :: _, [], h, _ => by cases h.vs
theorem DicV.any {lv : List (Str × V)} {l : List (Str × D)} (h : DicV K C dO F lv l) (z : Str) : (lv.any fun p => decide (p.1 = z)) = l.any fun p => decide (p.1 = z) := by
  have e1 : (lv.any fun p => decide (p.1 = z)) = (lv.map (·.1)).any fun k => decide (k = z) := by rw [List.any_map]; rfl
  have e2 : (l.any fun p => decide (p.1 = z)) = (l.map (·.1)).any fun k => decide (k = z) := by rw [List.any_map]; rfl
  rw [e1, e2, h.ks]
theorem DicV.put {lv : List (Str × V)} {l : List (Str × D)} {v : V} {d : D} (h : DicV K C dO F lv l) (z : Str) (r : Rep K C dO F v d) : DicV K C dO F (putS lv z v) (putS l z d) := by
  have ea := h.any z
  unfold putS
  rw [ea]
  split
  · rename_i hh
    clear ea hh
    obtain ⟨hk, hv⟩ := h
    induction lv generalizing l with
    | nil => cases l with
      | nil => exact ⟨rfl, .nil⟩
      | cons q l => cases hv
    | cons p lv ih => cases l with
      | nil => cases hv
      | cons q l =>
        have k2 := List.cons.inj hk
        have ek : p.1 = q.1 := k2.1
        cases hv with
        | cons r1 rs =>
          obtain ⟨i1, i2⟩ := ih (l := l) k2.2 rs
          by_cases c : p.1 = z
          · have c' : q.1 = z := ek ▸ c
            refine ⟨?_, ?_⟩
            · simp only [List.map_cons, if_pos c, if_pos c', ek, i1]
            · simp only [List.map_cons, if_pos c, if_pos c']; exact .cons r i2
          · have c' : ¬ q.1 = z := fun e => c (ek.trans e)
            refine ⟨?_, ?_⟩
            · simp only [List.map_cons, if_neg c, if_neg c', ek, i1]
            · simp only [List.map_cons, if_neg c, if_neg c']; exact .cons r1 i2
  · refine ⟨by rw [List.map_append, List.map_append, h.ks]; rfl, ?_⟩
    rw [List.map_append, List.map_append]
    exact h.vs.app (.cons r .nil)
theorem DicV.drop {lv : List (Str × V)} {l : List (Str × D)} (h : DicV K C dO F lv l) (z : Str) : DicV K C dO F (dropS lv z) (dropS l z) := by
  unfold dropS
  obtain ⟨hk, hv⟩ := h
  induction lv generalizing l with
  | nil => cases l with
    | nil => exact ⟨rfl, .nil⟩
    | cons q l => cases hv
  | cons p lv ih => cases l with
    | nil => cases hv
    | cons q l =>
      have k2 := List.cons.inj hk
      have ek : p.1 = q.1 := k2.1
      cases hv with
      | cons r1 rs =>
        obtain ⟨i1, i2⟩ := ih (l := l) k2.2 rs
        by_cases c : p.1 = z
        · have c' : q.1 = z := ek ▸ c
          rw [List.filter_cons_of_neg (by simpa using c), List.filter_cons_of_neg (by simpa using c')]
          exact ⟨i1, i2⟩
        · have c' : ¬ q.1 = z := fun e => c (ek.trans e)
          rw [List.filter_cons_of_pos (by simpa using c), List.filter_cons_of_pos (by simpa using c')]
          exact ⟨by simp only [List.map_cons, ek, i1], by simp only [List.map_cons]; exact .cons r1 i2⟩
end
end TkL


namespace TkL
open PySem PySem.Spec PySem.Calls PyProof.Rows L2 Tk
structure EnR where
  w : Str
  n : Str
  b : Option RV
  a : RV
def optR : Option RV → D
  | none => .non
  | some r => .row r
def EnR.d (e : EnR) : D := .tup [.str e.w, .str e.n, optR e.b, .row e.a]
def enD' (l : List EnR) : List D := l.map EnR.d
def rowsD (l : List (Str × RV)) : List (Str × D) := l.map fun p => (p.1, .row p.2)
structure RcT where
  rows : List (Str × RV)
  past : List EnR
  undone : List EnR
def dctD (l : List (Str × RV)) : D := .dct (l.map (·.1)) (l.map fun p => .row p.2)
def RcT.d (t : RcT) : D := .tup [dctD t.rows, .lst (enD' t.past), .lst (enD' t.undone)]
structure RcS where
  t : RcT
  saved : List (Str × RcT)
def savedD (l : List (Str × RcT)) : List (Str × D) := l.map fun p => (p.1, p.2.d)
def rFs (a b c d : Addr) : List (Str × V) := [("rows", .ref a), ("past", .ref b), ("undone", .ref c), ("saved", .ref d)]
def rFd (m : Str) : Bool := ("rows" : Str) == m || ("past" : Str) == m || ("undone" : Str) == m || ("saved" : Str) == m
structure RcI (CR : Addr) (s : RcS) (K : PySem.W.Frag) (C : Addr) (dO : Option Addr) (H F : Hp) (p dx a b c d : Addr) (lr : List (Str × V)) (lp lu : List V) (ls : List (Str × V)) : Prop where
  ob : H p = some (.ins CR dx (rFs a b c d))
  ra : H a = some (dictO lr)
  rv : DicV K C dO F lr (rowsD s.t.rows)
  pa : H b = some (.lst lp)
  pv : Reps K C dO F lp (enD' s.t.past)
  ua : H c = some (.lst lu)
  uv : Reps K C dO F lu (enD' s.t.undone)
  sa : H d = some (dictO ls)
  sv : DicV K C dO F ls (savedD s.saved)
  nd : [p, a, b, c, d].Nodup
  nc : CR ≠ C
def RcAt (CR : Addr) (po : Option Addr) (s : RcS) (K : PySem.W.Frag) (C : Addr) (dO : Option Addr) (H F : Hp) (p : Addr) (fp : List Addr) : Prop :=
  (∀ q, po = some q → p = q) ∧ ∃ dx a b c d lr lp lu ls, RcI CR s K C dO H F p dx a b c d lr lp lu ls ∧ fp = [p, a, b, c, d]
theorem RcI.keep {CR : Addr} {s : RcS} {K : PySem.W.Frag} {C : Addr} {dO : Option Addr} {H F H' F' : Hp} {p dx a b c d : Addr} {lr : List (Str × V)} {lp lu : List V} {ls : List (Str × V)} (I : RcI CR s K C dO H F p dx a b c d lr lp lu ls) (k : ∀ x ∈ [p, a, b, c, d], H' x = H x) (e : Ex F F') : RcI CR s K C dO H' F' p dx a b c d lr lp lu ls :=
  ⟨by rw [k _ (by simp)]; exact I.ob, by rw [k _ (by simp)]; exact I.ra, I.rv.ex e, by rw [k _ (by simp)]; exact I.pa, I.pv.ex e, by rw [k _ (by simp)]; exact I.ua, I.uv.ex e, by rw [k _ (by simp)]; exact I.sa, I.sv.ex e, I.nd, I.nc⟩
def muR (CR : Addr) (po : Option Addr) (s : RcS) : Mu := ⟨RcAt CR po s, fun h keep e => by
  obtain ⟨hp, dx, a, b, c, d, lr, lp, lu, ls, I, rfl⟩ := h
  exact ⟨hp, dx, a, b, c, d, lr, lp, lu, ls, I.keep keep e, rfl⟩⟩
def ownR (CR : Addr) (po : Option Addr) : Own RcS where
  cls := CR
  mu := muR CR po
  fd := rFd
  ins := fun {s K C dO H F p fp} h => by
    obtain ⟨hp, dx, a, b, c, d, lr, lp, lu, ls, I, rfl⟩ := h
    refine ⟨dx, _, I.ob, by simp, fun m hm => ?_⟩
    unfold rFd at hm
    simp only [Bool.or_eq_false_iff] at hm
    obtain ⟨⟨⟨e1, e2⟩, e3⟩, e4⟩ := hm
    have sy : ∀ {x : Str}, (x == m) = false → (m == x) = false := fun {x} h => by
      cases c : (m == x) with
      | false => rfl
      | true => rw [beq_iff_eq] at c; rw [c, beq_self_eq_true] at h; cases h
    unfold rFs
    simp only [List.lookup, sy e1, sy e2, sy e3, sy e4]
section
variable {K : PySem.W.Frag} {C CR : Addr} {dO : Option Addr} {H F H' F' : Hp} {fp fp' : List Addr} {p : Addr} {s : RcS}
theorem RcAt.pin (h : RcAt CR none s K C dO H F p fp) : RcAt CR (some p) s K C dO H F p fp := ⟨fun q e => Option.some.inj e, h.2⟩
end
def muRt (CR : Addr) (x : Option Sl) (k : Option Addr → RcS → List Addr → Prop) : Prop := ∃ po s fp, x = some (.mu (muR CR po s) fp) ∧ k po s fp
def uRNotIn (CR : Addr) (i j : Nat) : UE := fun ρ P => muRt CR ρ[i]? fun _ s _ => ∃ z, ρ[j]? = some (.val (.str z)) ∧ P (.bl (!(lookS s.t.rows z).isSome)) ρ
def uRItem (CR : Addr) (i j : Nat) : UE := fun ρ P => muRt CR ρ[i]? fun _ s _ => ∃ z r, ρ[j]? = some (.val (.str z)) ∧ lookS s.t.rows z = some r ∧ P (.row r) ρ
def uRGet (CR : Addr) (i j : Nat) : UE := fun ρ P => muRt CR ρ[i]? fun _ s _ => ∃ z, ρ[j]? = some (.val (.str z)) ∧ P (optR (lookS s.t.rows z)) ρ
section
variable {B : Bs} {CR : Addr} {i j : Nat}
end
end TkL


namespace TkL
open PySem PySem.Spec PySem.Calls PyProof.Rows L2 Tk
theorem nd5 {p a b c d : Addr} (h : [p, a, b, c, d].Nodup) : p ≠ a ∧ p ≠ b ∧ p ≠ c ∧ p ≠ d ∧ a ≠ b ∧ a ≠ c ∧ a ≠ d ∧ b ≠ c ∧ b ≠ d ∧ c ≠ d := by
  simp only [List.nodup_cons, List.mem_cons, List.not_mem_nil, or_false, not_or] at h
  obtain ⟨⟨h1, h2, h3, h4⟩, ⟨h5, h6, h7⟩, ⟨h8, h9⟩, h10, _⟩ := h
  exact ⟨h1, h2, h3, h4, h5, h6, h7, h8, h9, h10⟩
section
variable {CR : Addr} {s : RcS} {K : PySem.W.Frag} {C : Addr} {dO : Option Addr} {H F : Hp} {p dx a b c d : Addr} {lr : List (Str × V)} {lp lu : List V} {ls : List (Str × V)}
theorem RcI.rows {lr' : List (Str × V)} {l : List (Str × RV)} (I : RcI CR s K C dO H F p dx a b c d lr lp lu ls) (h : DicV K C dO F lr' (rowsD l)) : RcI CR { s with t := { s.t with rows := l } } K C dO (upd H a (dictO lr')) F p dx a b c d lr' lp lu ls := by
  obtain ⟨h1, h2, h3, h4, h5, h6, h7, h8, h9, h10⟩ := nd5 I.nd
  exact ⟨by rw [upd_ne h1]; exact I.ob, upd_same, h, by rw [upd_ne h5.symm]; exact I.pa, I.pv, by rw [upd_ne h6.symm]; exact I.ua, I.uv, by rw [upd_ne h7.symm]; exact I.sa, I.sv, I.nd, I.nc⟩
theorem RcI.past {lp' : List V} {l : List EnR} (I : RcI CR s K C dO H F p dx a b c d lr lp lu ls) (h : Reps K C dO F lp' (enD' l)) : RcI CR { s with t := { s.t with past := l } } K C dO (upd H b (.lst lp')) F p dx a b c d lr lp' lu ls := by
  obtain ⟨h1, h2, h3, h4, h5, h6, h7, h8, h9, h10⟩ := nd5 I.nd
  exact ⟨by rw [upd_ne h2]; exact I.ob, by rw [upd_ne h5]; exact I.ra, I.rv, upd_same, h, by rw [upd_ne h8.symm]; exact I.ua, I.uv, by rw [upd_ne h9.symm]; exact I.sa, I.sv, I.nd, I.nc⟩
theorem RcI.undone {lu' : List V} {l : List EnR} (I : RcI CR s K C dO H F p dx a b c d lr lp lu ls) (h : Reps K C dO F lu' (enD' l)) : RcI CR { s with t := { s.t with undone := l } } K C dO (upd H c (.lst lu')) F p dx a b c d lr lp lu' ls := by
  obtain ⟨h1, h2, h3, h4, h5, h6, h7, h8, h9, h10⟩ := nd5 I.nd
  exact ⟨by rw [upd_ne h3]; exact I.ob, by rw [upd_ne h6]; exact I.ra, I.rv, by rw [upd_ne h8]; exact I.pa, I.pv, upd_same, h, by rw [upd_ne h10.symm]; exact I.sa, I.sv, I.nd, I.nc⟩
theorem RcI.saved {ls' : List (Str × V)} {l : List (Str × RcT)} (I : RcI CR s K C dO H F p dx a b c d lr lp lu ls) (h : DicV K C dO F ls' (savedD l)) : RcI CR { s with saved := l } K C dO (upd H d (dictO ls')) F p dx a b c d lr lp lu ls' := by
  obtain ⟨h1, h2, h3, h4, h5, h6, h7, h8, h9, h10⟩ := nd5 I.nd
  exact ⟨by rw [upd_ne h4]; exact I.ob, by rw [upd_ne h7]; exact I.ra, I.rv, by rw [upd_ne h9]; exact I.pa, I.pv, by rw [upd_ne h10]; exact I.ua, I.uv, upd_same, h, I.nd, I.nc⟩
end
def uRPut (CR : Addr) (i j : Nat) (ua : UE) : US := fun P ρ => ua ρ fun d ρ1 => muRt CR ρ1[i]? fun po s fp => ∃ z r, ρ1[j]? = some (.val (.str z)) ∧ d = .row r ∧ s.t.rows.length < 1000 ∧ P.nx (ρ1.set i (.mu (muR CR po { s with t := { s.t with rows := putS s.t.rows z r } }) fp))
def uRPop (CR : Addr) (i j : Nat) : US := fun P ρ => muRt CR ρ[i]? fun po s fp => ∃ z, ρ[j]? = some (.val (.str z)) ∧ (lookS s.t.rows z).isSome = true ∧ P.nx (ρ.set i (.mu (muR CR po { s with t := { s.t with rows := dropS s.t.rows z } }) fp))
section
variable {B : Bs} {CR : Addr} {i j : Nat} {ta : TE} {ua : UE}
end
end TkL


namespace TkS
open PySem PySem.SeqAt
open AutoSeq1 (wpAny_loadPart')
open MeetsSeq MeetsSeq2 MeetsSeq3 SeqRoads2
section
variable {prog : Program} {w : World}
end
end TkS
namespace TkL
open PySem PySem.Spec PySem.Calls PyProof.Rows L2 Tk
def uREqP (CR : Addr) (i : Nat) : UE := fun ρ P => muRt CR ρ[i]? fun _ s _ => P (.bl (decide (s.t.past = []))) ρ
def uREqU (CR : Addr) (i : Nat) : UE := fun ρ P => muRt CR ρ[i]? fun _ s _ => P (.bl (decide (s.t.undone = []))) ρ
section
variable {B : Bs} {CR : Addr} {i j : Nat} {ta : TE} {ua : UE}
end
def uRAppP (CR : Addr) (i : Nat) (ua : UE) : US := fun P ρ => muRt CR ρ[i]? (fun _ _ _ => True) ∧ ua ρ fun d ρ1 => muRt CR ρ1[i]? fun po s fp => ∃ e, d = EnR.d e ∧ s.t.past.length < 1000000 ∧ P.nx (ρ1.set i (.mu (muR CR po { s with t := { s.t with past := s.t.past ++ [e] } }) fp))
def uRAppU (CR : Addr) (i : Nat) (ua : UE) : US := fun P ρ => muRt CR ρ[i]? (fun _ _ _ => True) ∧ ua ρ fun d ρ1 => muRt CR ρ1[i]? fun po s fp => ∃ e, d = EnR.d e ∧ s.t.undone.length < 1000000 ∧ P.nx (ρ1.set i (.mu (muR CR po { s with t := { s.t with undone := s.t.undone ++ [e] } }) fp))
def uRPopP (CR : Addr) (i j : Nat) : US := fun P ρ => muRt CR ρ[i]? fun po s fp => ∃ l e, s.t.past = l ++ [e] ∧ i ≠ j ∧ P.nx ((ρ.set i (.mu (muR CR po { s with t := { s.t with past := l } }) fp)).set j (.val (EnR.d e)))
def uRPopU (CR : Addr) (i j : Nat) : US := fun P ρ => muRt CR ρ[i]? fun po s fp => ∃ l e, s.t.undone = l ++ [e] ∧ i ≠ j ∧ P.nx ((ρ.set i (.mu (muR CR po { s with t := { s.t with undone := l } }) fp)).set j (.val (EnR.d e)))
section
variable {B : Bs} {CR : Addr} {i j : Nat} {ta : TE} {ua : UE}
end
end TkL


namespace TkL
open PySem PySem.Spec PySem.Calls PyProof.Rows L2 Tk
section
variable {B : Bs} {CR : Addr} {H F : Hp} {σ : L2.St} {ρ : Env} {i : Nat} {po : Option Addr} {s : RcS} {p dx a b c d q : Addr} {lr : List (Str × V)} {lp lu : List V} {ls : List (Str × V)}
end
def uRClr (CR : Addr) (i : Nat) : US := fun P ρ => muRt CR ρ[i]? fun po s _ => ∀ fp, P.nx (ρ.set i (.mu (muR CR po { s with t := { s.t with undone := [] } }) fp))
section
variable {B : Bs} {CR : Addr} {i : Nat}
end
end TkL


namespace TkL
open PySem PySem.Spec PySem.Calls PyProof.Rows L2 Tk
def uMetR (CR : Addr) (i : Nat) (g : UM RcS) (a : UA) : UE := fun ρ P => ∃ po s0 fp0, ρ[i]? = some (.mu (muR CR po s0) fp0) ∧ a ρ fun ds ρ1 => ∃ s fp, ρ1[i]? = some (.mu (muR CR po s) fp) ∧ g s ds fun d s' => ∀ fp', P d (ρ1.set i (.mu (muR CR po s') fp'))
theorem e_metR {CR : Addr} {i : Nat} {g : UM RcS} {a : UA} {ρ : Env} {P : D → Env → Prop} : uMetR CR i g a ρ P = ∃ po s0 fp0, ρ[i]? = some (.mu (muR CR po s0) fp0) ∧ a ρ fun ds ρ1 => ∃ s fp, ρ1[i]? = some (.mu (muR CR po s) fp) ∧ g s ds fun d s' => ∀ fp', P d (ρ1.set i (.mu (muR CR po s') fp')) := rfl
section
variable {B : Bs} {CR : Addr} {i : Nat} {g : UM RcS} {m : Str} {A : TA} {U : UA}
end
def uMIfR (c : UT) (a : UE) (b : (D → Mu → Prop) → Env → Prop) : (D → Mu → Prop) → Env → Prop := fun PM ρ => c ρ fun k ρ1 => if k = true then uMRet a PM ρ1 else b PM ρ1
theorem e_mifr {c : UT} {a : UE} {b : (D → Mu → Prop) → Env → Prop} {PM : D → Mu → Prop} {ρ : Env} : uMIfR c a b PM ρ = c ρ fun k ρ1 => if k = true then uMRet a PM ρ1 else b PM ρ1 := rfl
section
variable {K : PySem.W.Frag} {C CR : Addr} {N : List Str} {vs : List V} {H : Hp} {Q : VK} {E : XK} {ts : TS}
end
def RcS.put (s : RcS) (n : Str) (r : RV) : RcS := { s with t := { s.t with rows := putS s.t.rows n r } }
def RcS.drop (s : RcS) (n : Str) : RcS := { s with t := { s.t with rows := dropS s.t.rows n } }
def RcS.past (s : RcS) (l : List EnR) : RcS := { s with t := { s.t with past := l } }
def RcS.undone (s : RcS) (l : List EnR) : RcS := { s with t := { s.t with undone := l } }
end TkL



namespace TkL
open PySem PySem.Spec PySem.Calls PyProof.Rows L2 Tk
section
variable (K : PySem.W.Frag) (C : Addr) (CR : Addr)
end
end TkL


namespace TkL
open PySem PySem.Spec PySem.Calls PyProof.Rows L2 Tk
section
variable {CR : Addr} {i j : Nat} {ρ : Env} {P : D → Env → Prop} {Q : UEnds} {ua : UE}
theorem e_rNotIn : uRNotIn CR i j ρ P = muRt CR ρ[i]? fun _ s _ => ∃ z, ρ[j]? = some (.val (.str z)) ∧ P (.bl (!(lookS s.t.rows z).isSome)) ρ := rfl
theorem e_rItem : uRItem CR i j ρ P = muRt CR ρ[i]? fun _ s _ => ∃ z r, ρ[j]? = some (.val (.str z)) ∧ lookS s.t.rows z = some r ∧ P (.row r) ρ := rfl
theorem e_rGet : uRGet CR i j ρ P = muRt CR ρ[i]? fun _ s _ => ∃ z, ρ[j]? = some (.val (.str z)) ∧ P (optR (lookS s.t.rows z)) ρ := rfl
theorem e_rEqP : uREqP CR i ρ P = muRt CR ρ[i]? fun _ s _ => P (.bl (decide (s.t.past = []))) ρ := rfl
theorem e_rEqU : uREqU CR i ρ P = muRt CR ρ[i]? fun _ s _ => P (.bl (decide (s.t.undone = []))) ρ := rfl
theorem e_rPut : uRPut CR i j ua Q ρ = ua ρ fun d ρ1 => muRt CR ρ1[i]? fun po s fp => ∃ z r, ρ1[j]? = some (.val (.str z)) ∧ d = .row r ∧ s.t.rows.length < 1000 ∧ Q.nx (ρ1.set i (.mu (muR CR po (s.put z r)) fp)) := rfl
theorem e_rPop : uRPop CR i j Q ρ = muRt CR ρ[i]? fun po s fp => ∃ z, ρ[j]? = some (.val (.str z)) ∧ (lookS s.t.rows z).isSome = true ∧ Q.nx (ρ.set i (.mu (muR CR po (s.drop z)) fp)) := rfl
theorem e_rAppP : uRAppP CR i ua Q ρ = (muRt CR ρ[i]? (fun _ _ _ => True) ∧ ua ρ fun d ρ1 => muRt CR ρ1[i]? fun po s fp => ∃ e, d = EnR.d e ∧ s.t.past.length < 1000000 ∧ Q.nx (ρ1.set i (.mu (muR CR po (s.past (s.t.past ++ [e]))) fp))) := rfl
theorem e_rAppU : uRAppU CR i ua Q ρ = (muRt CR ρ[i]? (fun _ _ _ => True) ∧ ua ρ fun d ρ1 => muRt CR ρ1[i]? fun po s fp => ∃ e, d = EnR.d e ∧ s.t.undone.length < 1000000 ∧ Q.nx (ρ1.set i (.mu (muR CR po (s.undone (s.t.undone ++ [e]))) fp))) := rfl
theorem e_rPopP : uRPopP CR i j Q ρ = muRt CR ρ[i]? fun po s fp => ∃ l e, s.t.past = l ++ [e] ∧ i ≠ j ∧ Q.nx ((ρ.set i (.mu (muR CR po (s.past l)) fp)).set j (.val (EnR.d e))) := rfl
theorem e_rPopU : uRPopU CR i j Q ρ = muRt CR ρ[i]? fun po s fp => ∃ l e, s.t.undone = l ++ [e] ∧ i ≠ j ∧ Q.nx ((ρ.set i (.mu (muR CR po (s.undone l)) fp)).set j (.val (EnR.d e))) := rfl
theorem e_rClr : uRClr CR i Q ρ = muRt CR ρ[i]? fun po s _ => ∀ fp, Q.nx (ρ.set i (.mu (muR CR po (s.undone [])) fp)) := rfl
end
end TkL
local macro_rules | `(tactic| walk_at "ewz") => do
  let nms (s : String) := (s.splitOn " ").toArray.map fun x => Lean.mkIdent x.toName
  let x1 := nms "TkL.e_mseq TkL.e_mret TkL.e_mretN TkL.e_mifr TkL.e_metR TkL.e_rNotIn TkL.e_rItem TkL.e_rGet TkL.e_rEqP TkL.e_rEqU TkL.e_rPut TkL.e_rPop TkL.e_rAppP TkL.e_rAppU TkL.e_rPopP TkL.e_rPopU TkL.e_rClr"
  let t1 ← `(tactic| simp only [$[$x1:ident],*])
  `(tactic| repeat (first | ($t1:tactic) | walk_at "ew" | (with_reducible refine And.intro (TkL.muRt_i trivial) ?_) | (with_reducible refine TkL.muRt_i ?_)))
namespace TkL
open PySem PySem.Spec PySem.Calls PyProof.Rows L2 Tk
section
variable {CR : Addr} (po : Option Addr) (s : RcS) (fp : List Addr) (ds : List D) (P : D → RcS → Prop)
end
end TkL


namespace TkL
open PySem PySem.Spec PySem.Calls PyProof.Rows L2 Tk
def NameOk (z : Str) : Prop := 1 ≤ z.length ∧ z.length ≤ 8 ∧ ∀ c ∈ z.cps.toList, c ∈ ("abcdefghijklmnopqrstuvwxyz" : Str).cps.toList
end TkL



namespace TkL
open PySem PySem.Spec PySem.Calls PyProof.Rows L2 Tk
section
variable (K : PySem.W.Frag) (C : Addr) (CR : Addr)
end
end TkL


namespace TkL
open PySem PySem.Spec PySem.Calls PyProof.Rows L2 Tk
def RcS.Room (s : RcS) : Prop := s.t.past.length < 1000000 ∧ s.t.rows.length < 1000
section
variable {CR : Addr} (po : Option Addr) (s : RcS) (fp : List Addr) (ds : List D) (P : D → RcS → Prop)
end
end TkL


namespace TkL
open PySem PySem.Spec PySem.Calls PyProof.Rows L2 Tk
section
variable {B : Bs} {CR : Addr} {i : Nat}
end
end TkL


namespace TkL
open PySem PySem.Spec PySem.Calls PyProof.Rows L2 Tk
section
variable {B : Bs} {CR : Addr} {i j : Nat}
end
end TkL



namespace TkL
open PySem PySem.Spec PySem.Calls PyProof.Rows L2 Tk
section
variable (K : PySem.W.Frag) (C : Addr) (CR : Addr)
end
end TkL


namespace TkL
open PySem PySem.Spec PySem.Calls PyProof.Rows L2 Tk
section
variable {CR : Addr} {i j : Nat} {ρ : Env} {P : D → Env → Prop}
end
section
variable {CR : Addr} (po : Option Addr) (s : RcS) (fp : List Addr) (ds : List D) (P : D → RcS → Prop)
end
end TkL



namespace TkL
open PySem PySem.Spec PySem.Calls PyProof.Rows L2 Tk
section
variable (K : PySem.W.Frag) (C : Addr) (CJ : Addr) (CR : Addr) (T0 : Addr)
end
end TkL


namespace TkL
open PySem PySem.Spec PySem.Calls PyProof.Rows L2 Tk
end TkL


namespace TkL
open PySem PySem.Spec PySem.Calls PyProof.Rows L2 Tk
section
variable {K : PySem.W.Frag} {C CR : Addr} {vs : List V} {H : Hp} {Q : VK} {E : XK}
end
def rc0 : RcS := ⟨⟨[], [], []⟩, []⟩
def uRMk : Env → (RcS → Env → Prop) → Prop := fun ρ P => P rc0 ρ
section
variable {B : Bs}
end
end TkL


namespace TkL
open PySem PySem.Spec PySem.Calls PyProof.Rows L2 Tk
section
variable {B : Bs} {CR : Addr} {i : Nat}
end
end TkL


namespace TkL
open PySem PySem.Spec PySem.Calls PyProof.Rows L2 Tk
section
variable {B : Bs} {CR : Addr} {i j : Nat} {ta : TE} {ua : UE}
end
end TkL



namespace TkL
open PySem PySem.Spec PySem.Calls PyProof.Rows L2 Tk
section
variable (K : PySem.W.Frag) (C : Addr) (CR : Addr)
end
end TkL


namespace TkL
open PySem PySem.Spec PySem.Calls PyProof.Rows L2 Tk
section
variable {CR : Addr} {i j : Nat} {ρ : Env} {P : D → Env → Prop} {Q : UEnds} {ua : UE}
end
section
variable {CR : Addr} (po : Option Addr) (s : RcS) (fp : List Addr) (ds : List D) (P : D → RcS → Prop)
end
end TkL


namespace TkL
open PySem PySem.Spec PySem.Calls PyProof.Rows L2 Tk
section
variable {CR : Addr} {s : RcS} {K : PySem.W.Frag} {C : Addr} {dO : Option Addr} {H F : Hp} {p dx a b c d q : Addr} {lr lr' : List (Str × V)} {lp lu vs : List V} {ls : List (Str × V)}
end
section
variable {B : Bs} {CR : Addr} {i j1 j2 j3 : Nat}
end
end TkL



namespace TkL
open PySem PySem.Spec PySem.Calls PyProof.Rows L2 Tk
section
variable (K : PySem.W.Frag) (C : Addr) (CR : Addr)
end
end TkL


namespace TkL
open PySem PySem.Spec PySem.Calls PyProof.Rows L2 Tk
def RcS.rest (s : RcS) (t : RcT) : RcS := { s with t := t }
section
variable {CR : Addr} {i j j1 j2 j3 : Nat} {ρ : Env} {P : D → Env → Prop} {Q : UEnds}
end
section
variable {CR : Addr} (po : Option Addr) (s : RcS) (fp : List Addr) (ds : List D) (P : D → RcS → Prop)
end
end TkL


namespace TkL
open PySem PySem.Spec PySem.Calls PyProof.Rows L2 Tk
def pairM (M : Mu) (l : List D) (q : Addr) : Mu := ⟨fun K C dO H F p fp => ∃ f vs, fp = q :: f ∧ q ∉ f ∧ M.At K C dO H F p f ∧ H q = some (.lst vs) ∧ Reps K C dO F vs l, fun h keep e => by
  obtain ⟨f, vs, rfl, n, a, h, r⟩ := h
  exact ⟨f, vs, rfl, n, M.st a (fun x hx => keep x (List.mem_cons_of_mem _ hx)) e, by rw [keep q List.mem_cons_self]; exact h, r.ex e⟩⟩
section
variable {B : Bs} {H F : Hp} {σ : L2.St} {ρ : Env} {i j : Nat}
theorem RelF.split (R : RelF B H F σ ρ) {M : Mu} {l : List D} {q : Addr} {fp : List Addr} (hi : ρ[i]? = some (.mu (pairM M l q) fp)) (hj : ρ[j]? = some .no) (sj : σ[j]? = some (some (.ref q))) : ∃ f, RelF B H F σ ((ρ.set i (.mu M f)).set j (.own l)) := by
  obtain ⟨p, a0, ⟨f, vs, rfl, nq, at0, hq, rq⟩, ok⟩ := R.mu i _ _ hi
  have ij : i ≠ j := fun z => by rw [z, hj] at hi; cases hi
  refine ⟨f, ?_⟩
  have get : ∀ (k : Nat) s, ((ρ.set i (.mu M f)).set j (.own l))[k]? = some s → (k = j ∧ s = .own l) ∨ (k = i ∧ s = .mu M f) ∨ (k ≠ i ∧ k ≠ j ∧ ρ[k]? = some s) := fun k s e => by
    rw [List.getElem?_set] at e
    by_cases c : j = k
    · rw [if_pos c] at e
      split at e
      · exact .inl ⟨c.symm, (Option.some.inj e).symm⟩
      · cases e
    · rw [if_neg c, List.getElem?_set] at e
      by_cases c2 : i = k
      · rw [if_pos c2] at e
        split at e
        · exact .inr (.inl ⟨c2.symm, (Option.some.inj e).symm⟩)
        · cases e
      · rw [if_neg c2] at e; exact .inr (.inr ⟨fun z => c2 z.symm, fun z => c z.symm, e⟩)
  obtain ⟨q0, qF, _⟩ := ok q List.mem_cons_self
  refine ⟨R.toRelH, by rw [List.length_set, List.length_set]; exact R.len, fun k d e => ?_, fun k m e => ?_, fun k k' m m' y e1 e2 h1 h2 => ?_, fun k N gp e => ?_, fun k k' N gp m y e1 e2 h1 => ?_, fun k k' N N' gp gp' y n e1 e2 hx => ?_⟩
  · rcases get k _ e with ⟨_, z⟩ | ⟨_, z⟩ | ⟨_, _, e⟩
    · cases z
    · cases z
    · exact R.val k d e
  · rcases get k _ e with ⟨rfl, z⟩ | ⟨_, z⟩ | ⟨_, _, e⟩
    · cases z
      exact ⟨q, vs, sj, q0, qF, hq, rq⟩
    · cases z
    · exact R.own k m e
  · rcases get k _ e1 with ⟨k1, z1⟩ | ⟨_, z⟩ | ⟨_, _, f1⟩
    · rcases get k' _ e2 with ⟨k2, z2⟩ | ⟨_, z⟩ | ⟨_, _, f2⟩
      · exact k1.trans k2.symm
      · cases z
      · rw [k1, sj] at h1
        cases h1
        exact absurd List.mem_cons_self (R.mo i k' _ _ m' q hi f2 h2)
    · cases z
    · rcases get k' _ e2 with ⟨k2, z2⟩ | ⟨_, z⟩ | ⟨_, _, f2⟩
      · rw [k2, sj] at h2
        cases h2
        exact absurd List.mem_cons_self (R.mo i k _ _ m q hi f1 h1)
      · cases z
      · exact R.inj k k' m m' y f1 f2 h1 h2
  · rcases get k _ e with ⟨_, z⟩ | ⟨k1, z⟩ | ⟨_, _, e⟩
    · cases z
    · cases z
      exact ⟨p, by rw [k1]; exact a0, at0, fun x hx => ok x (List.mem_cons_of_mem _ hx)⟩
    · exact R.mu k N gp e
  · rcases get k' _ e2 with ⟨k2, z2⟩ | ⟨_, z⟩ | ⟨_, _, f2⟩
    · rw [k2, sj] at h1
      cases h1
      rcases get k _ e1 with ⟨_, z⟩ | ⟨k1, z⟩ | ⟨n1, _, f1⟩
      · cases z
      · cases z; exact nq
      · exact fun hy => R.mm k i N _ gp _ q n1 f1 hi hy List.mem_cons_self
    · cases z
    · rcases get k _ e1 with ⟨_, z⟩ | ⟨k1, z⟩ | ⟨_, _, f1⟩
      · cases z
      · cases z
        exact fun hy => R.mo i k' _ _ m y hi f2 h1 (List.mem_cons_of_mem _ hy)
      · exact R.mo k k' N gp m y f1 f2 h1
  · rcases get k _ e1 with ⟨_, z⟩ | ⟨k1, z⟩ | ⟨n1, _, f1⟩
    · cases z
    · rcases get k' _ e2 with ⟨_, z'⟩ | ⟨k2, z'⟩ | ⟨n2, _, f2⟩
      · cases z'
      · exact absurd (k1.trans k2.symm) n
      · cases z
        exact R.mm i k' _ N' _ gp' y (fun z => n2 z.symm) hi f2 (List.mem_cons_of_mem _ hx)
    · rcases get k' _ e2 with ⟨_, z'⟩ | ⟨k2, z'⟩ | ⟨n2, _, f2⟩
      · cases z'
      · cases z'
        exact fun hy => R.mm k i N _ gp _ y n1 f1 hi hx (List.mem_cons_of_mem _ hy)
      · exact R.mm k k' N N' gp gp' y n f1 f2 hx
end
end TkL


namespace TkL
open PySem PySem.Spec PySem.Calls PyProof.Rows L2 Tk
section
variable {B : Bs} {H F : Hp} {σ : L2.St} {ρ : Env} {i j : Nat}
theorem RelF.join (R : RelF B H F σ ρ) {M : Mu} {f : List Addr} {l : List D} (hi : ρ[i]? = some (.mu M f)) (hj : ρ[j]? = some (.own l)) : ∃ q, σ[j]? = some (some (.ref q)) ∧ RelF B H F σ ((ρ.set j .no).set i (.mu (pairM M l q) (q :: f))) := by
  obtain ⟨p, a0, at0, ok⟩ := R.mu i _ _ hi
  obtain ⟨q, vs, sj, q0, qF, qH, qr⟩ := R.own j _ hj
  have ij : j ≠ i := fun z => by rw [z, hi] at hj; cases hj
  have nq : q ∉ f := R.mo i j _ _ _ _ hi hj sj
  have e2 : (ρ.set j .no)[i]? = some (.mu M f) := by rw [List.getElem?_set_ne ij]; exact hi
  refine ⟨q, sj, (R.no j).muUpd2 (M' := pairM M l q) (fp' := q :: f) e2 a0 (fun _ _ => rfl) (fun x hx => ?_) (fun x hx => ?_) ⟨f, vs, rfl, nq, at0, qH, qr⟩⟩
  · obtain ⟨_, h2, o, h3, h4⟩ := ok x hx
    exact ⟨o, h3, R.lk x o h3 h2, h4⟩
  · rcases List.mem_cons.mp hx with rfl | hx
    · refine .inr ⟨q0, qF, ⟨fun n m en z => ?_, fun n N gp en z => ?_⟩, _, qH, fun _ z => nomatch z⟩
      · rw [List.getElem?_set] at en
        by_cases c : j = n
        · rw [if_pos c] at en
          split at en <;> cases en
        · rw [if_neg c] at en
          exact c (R.inj j n _ _ _ hj en sj z)
      · rw [List.getElem?_set] at en
        by_cases c : j = n
        · rw [if_pos c] at en
          split at en <;> cases en
        · rw [if_neg c] at en
          exact R.mo n j _ _ _ _ en hj sj z
    · exact .inl hx
end
end TkL


namespace TkL
open PySem PySem.Spec PySem.Calls PyProof.Rows L2 Tk
section
variable {B : Bs} {S : Type} {O : Own S} {i j k : Nat} {g : S → List D → List D → (D → S → List D → Prop) → Prop} {A : TA} {U : UA}
end
end TkL


namespace TkL
open PySem PySem.Spec PySem.Calls PyProof.Rows L2 Tk
def muLq (l : List D) (q : Addr) : Mu := ⟨fun K C dO H F p fp => p = q ∧ fp = [q] ∧ ∃ vs, H q = some (.lst vs) ∧ Reps K C dO F vs l, fun h keep e => by
  obtain ⟨rfl, rfl, vs, h, r⟩ := h
  exact ⟨rfl, rfl, vs, by rw [keep _ List.mem_cons_self]; exact h, r.ex e⟩⟩
section
variable {B : Bs} {H F : Hp} {σ : L2.St} {ρ : Env} {j : Nat}
end
end TkL


namespace TkL
open PySem PySem.Spec PySem.Calls PyProof.Rows L2
end TkL


namespace TkL
open PySem PySem.Spec PySem.Calls PyProof.Rows L2 Tk
theorem Fre.set {σ : L2.St} {ρ : Env} {x : Addr} {i : Nat} {v : Option V} {s : Sl} (h : Fre σ ρ x) (ho : ∀ l, s ≠ .own l) (hm : ∀ M fp, s = .mu M fp → x ∉ fp) : Fre (σ.set i v) (ρ.set i s) x := by
  refine ⟨fun j l e => ?_, fun j M fp e => ?_⟩
  · rw [List.getElem?_set] at e ⊢
    by_cases c : i = j
    · rw [if_pos c] at e
      split at e
      · exact absurd (Option.some.inj e) (ho l)
      · cases e
    · rw [if_neg c] at e ⊢
      exact h.1 j l e
  · rw [List.getElem?_set] at e
    by_cases c : i = j
    · rw [if_pos c] at e
      split at e
      · exact hm M fp (Option.some.inj e)
      · cases e
    · rw [if_neg c] at e
      exact h.2 j M fp e
section
variable {B : Bs} {ta tb : TE} {ua ub : UE}
def uParVM {S : Type} (O : Own S) (i j : Nat) (a : UE) (b : Env → (S → Env → Prop) → Prop) : US := fun P ρ => a ρ fun d ρ1 => b ρ1 fun s ρ2 => ∀ fp, P.nx ((ρ2.set i (.val d)).set j (.mu (O.mu s) fp))
theorem e_parVM {S : Type} {O : Own S} {i j : Nat} {a : UE} {b : Env → (S → Env → Prop) → Prop} {P : UEnds} {ρ : Env} : uParVM O i j a b P ρ = a ρ fun d ρ1 => b ρ1 fun s ρ2 => ∀ fp, P.nx ((ρ2.set i (.val d)).set j (.mu (O.mu s) fp)) := rfl
end
def uRetT (a b : UE) (O : List D → D → Prop) : US := fun _ ρ => a ρ fun d ρ1 => ∃ l, d = .lst l ∧ b ρ1 fun d2 _ => O l d2
section
variable {B : Bs} {ta tb : TE} {ua ub : UE} {ts ts' : TS} {us us' : US} {A : TA} {U : UA}
def uAsgUT (up : UP) (i j : Nat) (a : UA) : US := fun P ρ => a ρ fun ds ρ1 => up ds fun d => ∃ l e, d = .tup [.lst l, e] ∧ P.nx ((ρ1.set i (.own l)).set j (.val e))
theorem e_asgUT {up : UP} {i j : Nat} {a : UA} {P : UEnds} {ρ : Env} : uAsgUT up i j a P ρ = a ρ fun ds ρ1 => up ds fun d => ∃ l e, d = .tup [.lst l, e] ∧ P.nx ((ρ1.set i (.own l)).set j (.val e)) := rfl
end
abbrev URE := (D → Env → Prop) → Env → Prop
def uQSeq (a : US) (b : URE) : URE := fun PM ρ => a { nx := b PM, rt := fun _ => False } ρ
def uQRet (a : UE) : URE := fun PM ρ => a ρ PM
theorem e_qseq {a : US} {b : URE} {PM : D → Env → Prop} {ρ : Env} : uQSeq a b PM ρ = a { nx := b PM, rt := fun _ => False } ρ := rfl
theorem e_qret {a : UE} {PM : D → Env → Prop} {ρ : Env} : uQRet a PM ρ = a ρ PM := rfl
section
variable {B : Bs} {ta tb : TE} {ua ub : UE} {ts ts' : TS} {us : US} {ur : URE} {i j k : Nat}
def uAsgQ (j i k : Nat) (a b : UE) : US := fun P ρ => a ρ fun d1 ρ1 => b ρ1 fun d2 ρ2 => ∃ l q n m, ρ2[j]? = some (.mu (muLq l q) [q]) ∧ ρ2[i]? = some (.val (.int n)) ∧ ixN l.length n = some m ∧ P.nx ((ρ2.set j (.mu (muLq (l.set m d1) q) [q])).set k (.val d2))
theorem e_asgQ {j i k : Nat} {a b : UE} {P : UEnds} {ρ : Env} : uAsgQ j i k a b P ρ = a ρ fun d1 ρ1 => b ρ1 fun d2 ρ2 => ∃ l q n m, ρ2[j]? = some (.mu (muLq l q) [q]) ∧ ρ2[i]? = some (.val (.int n)) ∧ ixN l.length n = some m ∧ P.nx ((ρ2.set j (.mu (muLq (l.set m d1) q) [q])).set k (.val d2)) := rfl
end
section
variable {K : PySem.W.Frag} {C CR : Addr} {N : List Str} {vs : List V} {H : Hp} {Q : VK} {E : XK} {ts : TS}
end
end TkL



namespace TkL
open PySem PySem.Spec PySem.Calls PyProof.Rows L2 Tk
section
variable (K : PySem.W.Frag) (C : Addr) (CJ : Addr) (CR : Addr) (T0 : Addr)
end
end TkL


namespace TkL
open PySem PySem.Spec PySem.Calls PyProof.Rows L2 Tk
def SimXN2 (B : Bs) (t : TE) (u : UE) : Prop := ∀ H F σ ρ (Q : VK) (P : D → Env → Prop), RelF B H F σ ρ → u ρ P →
  (∀ H' F' p vs l ρ', Ex F F' → Kx B σ H F ρ H' F' ρ' → RelF B H' F' σ ρ' → B.H0 p = none → (Nmu ρ p → ¬ Sty H p) → Fre σ ρ' p → F' p = none → H' p = some (.lst vs) → Reps B.K B.C B.dO F' vs l → P (.lst l) ρ' → Q (.ref p) H') → t σ H Q
section
variable {B : Bs} {t : TE} {u : UE} {tt : TT} {ut : UT} {te : TE} {ue : UE}
theorem SimXN2.x (h : SimXN2 B t u) : SimX B t u := fun H F σ ρ Q P R hu k => h H F σ ρ Q P R hu fun H' F' p vs l ρ' e kp R' h0 hp hn hF hH rp hP => by
  obtain ⟨e1, R1⟩ := R'.frzN h0 hn hF hH
  refine k H' _ _ _ ρ' (e.trans e1) ⟨kp.kp, kp.nn, kp.ow, fun x h1 h2 h3 h4 => ?_, kp.mw⟩ R1 (.lst upd_same (rp.ex e1)) hP
  rw [upd_ne fun z => hp (by rw [← z]; exact h4) (by rw [← z]; exact h1)]
  exact kp.pr x h1 h2 h3 h4
end
end TkL


namespace LyR
open PySem PySem.SeqAt GQ SeqRoads2 MeetsSeq3 MeetsSeq2 MeetsSeq
section
variable {P : Program} {w : World} {A : Around} {R : Result → Shared → Prop}
end
end LyR
namespace TkL
open PySem PySem.Spec PySem.Calls PyProof.Rows L2 Tk
end TkL


namespace TkL
open PySem PySem.Spec PySem.Calls PyProof.Rows L2 Tk
theorem o_muR {CR : Addr} {po : Option Addr} {s : RcS} : (ownR CR po).mu s = muR CR po s := rfl
theorem e_rMk {ρ : Env} {P : RcS → Env → Prop} : uRMk ρ P = P rc0 ρ := rfl
theorem e_retT {a b : UE} {O : List D → D → Prop} {P : UEnds} {ρ : Env} : uRetT a b O P ρ = a ρ fun d ρ1 => ∃ l, d = .lst l ∧ b ρ1 fun d2 _ => O l d2 := rfl
end TkL
local macro_rules | `(tactic| walk_at "ewr") => do
  let nms (s : String) := (s.splitOn " ").toArray.map fun x => Lean.mkIdent x.toName
  let x1 := nms "TkL.e_retT TkL.e_qseq TkL.e_qret TkL.e_asgQ TkL.e_asgUT TkL.e_parVM TkL.o_muR TkL.e_rMk TkL.e_rNotIn TkL.e_rItem TkL.e_rGet TkL.e_rEqP TkL.e_rEqU TkL.e_rPut TkL.e_rPop TkL.e_rAppP TkL.e_rAppU TkL.e_rPopP TkL.e_rPopU TkL.e_rClr TkL.e_mifr TkL.e_metR TkL.e_istr TkL.e_raiseE TkL.e_try1 TkL.e_ce TkL.e_cer TkL.e_cec TkL.e_ceo TkL.e_cev TkL.e_cei TkL.e_tellE TkL.e_defX TkL.e_metX TkL.e_asgT TkL.e_catT TkL.e_appT TkL.e_allJ TkL.allU_nil TkL.allU_cons TkL.e_par_ov TkL.e_tell TkL.e_tellU TkL.e_dropApp TkL.e_par_vN TkL.e_asgLs TkL.e_parLO TkL.e_parMM TkL.e_lcO TkL.e_rev TkL.e_mseq TkL.e_mret TkL.e_mretN TkL.e_met TkL.e_cnt TkL.e_lrng TkL.e_asgM TkL.e_parMV TkL.e_jmk TkL.o_mu TkL.e_idx TkL.e_fB TkL.e_fL TkL.e_fE TkL.e_fO TkL.e_never TkL.e_enum TkL.e_rng3 TkL.e_ext TkL.e_augI TkL.e_bor TkL.e_retO TkL.e_retNO TkL.e_par_ovv TkL.e_mk TkL.e_setI TkL.e_g0 TkL.e_gThen TkL.e_gPl TkL.e_gYield TkL.e_gFor TkL.lcs_nil TkL.lcs_cons TkL.fors_nil TkL.fors_cons List.nil_append List.cons_append Nat.reduceLT"
  let t1 ← `(tactic| simp only [$[$x1:ident],*])
  `(tactic| repeat (first | ($t1:tactic) | walk_at "ew" | (with_reducible refine And.intro (TkL.muRt_i trivial) ?_) | (with_reducible refine TkL.muRt_i ?_) | (with_reducible refine And.intro (TkL.muSR_i trivial) ?_) | (with_reducible refine TkL.muSR_i ?_) | (with_reducible refine TkL.muTt_i ?_)))
namespace TkL
open PySem PySem.Spec PySem.Calls PyProof.Rows L2 Tk
section
variable {CR : Addr} (po : Option Addr) (s : RcS) (fp : List Addr) (l : List D) (q : Addr) (ds : List D) (P : D → RcS → List D → Prop)
end
end TkL


namespace TkL
open PySem PySem.Spec PySem.Calls PyProof.Rows L2 Tk
section
variable {α : Type}
theorem look_cons {p : Str × α} {l : List (Str × α)} {z : Str} : lookS (p :: l) z = if p.1 = z then some p.2 else lookS l z := by
  unfold lookS
  rw [List.find?_cons]
  by_cases c : p.1 = z
  · rw [if_pos c, decide_eq_true c]; rfl
  · rw [if_neg c, decide_eq_false c]
theorem any_look {l : List (Str × α)} {z : Str} : (l.any fun p => decide (p.1 = z)) = (lookS l z).isSome := by
  induction l with
  | nil => rfl
  | cons p l ih =>
    rw [List.any_cons, look_cons]
    by_cases c : p.1 = z
    · rw [if_pos c, decide_eq_true c]; rfl
    · rw [if_neg c, decide_eq_false c, Bool.false_or]; exact ih
theorem put_in {l : List (Str × α)} {z : Str} {v : α} (h : (lookS l z).isSome = true) : putS l z v = l.map fun p => if p.1 = z then (p.1, v) else p := by
  unfold putS
  rw [any_look, if_pos h]
theorem put_new {l : List (Str × α)} {z : Str} {v : α} (h : lookS l z = none) : putS l z v = l ++ [(z, v)] := by
  unfold putS
  rw [any_look, h]; rfl
end
structure HOp where
  w : Str
  n : Str
  r : RV
def putO (l : List (Str × RV)) (o : HOp) : List (Str × RV) := putS l o.n o.r
def rowsF (l : List (Str × RV)) (ops : List HOp) : List (Str × RV) := ops.foldl putO l
section
variable {ops : List HOp} {k : Nat} {sv : List (Str × RcT)}
end
end TkL


namespace TkL
open PySem PySem.Spec PySem.Calls PyProof.Rows L2 Tk
section
variable {ops : List HOp} {sv : List (Str × RcT)} {k : Nat} {P : D → RcS → Prop}
end
end TkL


namespace TkL
open PySem PySem.Spec PySem.Calls PyProof.Rows L2 Tk
def qDct (x y : D) (P : Option D → Prop) : Prop := match x, y with | .dct ks ds, .str z => P (lookS (ks.zip ds) z) | _, _ => False
def uDGet (a b : UE) : UE := fun ρ P => a ρ fun x ρ1 => b ρ1 fun y ρ2 => qDct x y fun o => ∃ d, o = some d ∧ P d ρ2
def uDIn (neg : Bool) (a b : UE) : UE := fun ρ P => b ρ fun y ρ1 => a ρ1 fun x ρ2 => qDct x y fun o => P (.bl (if neg then !o.isSome else o.isSome)) ρ2
section
variable {B : Bs} {ta tb : TE} {ua ub : UE}
end
theorem e_dget {a b : UE} {ρ : Env} {P : D → Env → Prop} : uDGet a b ρ P = a ρ fun x ρ1 => b ρ1 fun y ρ2 => qDct x y fun o => ∃ d, o = some d ∧ P d ρ2 := rfl
theorem e_din {neg : Bool} {a b : UE} {ρ : Env} {P : D → Env → Prop} : uDIn neg a b ρ P = b ρ fun y ρ1 => a ρ1 fun x ρ2 => qDct x y fun o => P (.bl (if neg then !o.isSome else o.isSome)) ρ2 := rfl
end TkL


namespace TkL
open PySem PySem.Spec PySem.Calls PyProof.Rows L2 Tk
def muS (l : List (Str × D)) : Mu := ⟨fun K C dO H F p fp => fp = [p] ∧ ∃ lv, H p = some (dictO lv) ∧ DicV K C dO F lv l, fun h keep e => by
  obtain ⟨rfl, lv, h1, h2⟩ := h
  exact ⟨rfl, lv, by rw [keep _ List.mem_cons_self]; exact h1, h2.ex e⟩⟩
section
variable {K : PySem.W.Frag} {σ : L2.St} {H : Hp} {p : Addr} {lv : List (Str × V)} {i k : Nat}
end
def uDCopy (i k j : Nat) : US := fun P ρ => ∃ ks ds, ρ[i]? = some (.val (.dct ks ds)) ∧ i ≠ k ∧ k < ρ.length ∧ ks.length = ds.length ∧ ks.Nodup ∧ ks.length < 1000 ∧ ∀ fp, P.nx (ρ.set j (.mu (muS (ks.zip ds)) fp))
theorem e_dcopy {i k j : Nat} {P : UEnds} {ρ : Env} : uDCopy i k j P ρ = ∃ ks ds, ρ[i]? = some (.val (.dct ks ds)) ∧ i ≠ k ∧ k < ρ.length ∧ ks.length = ds.length ∧ ks.Nodup ∧ ks.length < 1000 ∧ ∀ fp, P.nx (ρ.set j (.mu (muS (ks.zip ds)) fp)) := rfl
section
variable {B : Bs} {i j k : Nat}
end
end TkL


namespace TkL
open PySem PySem.Spec PySem.Calls PyProof.Rows L2 Tk
def muSt' (x : Option Sl) (k : List (Str × D) → List Addr → Prop) : Prop := ∃ l fp, x = some (.mu (muS l) fp) ∧ k l fp
def uDSetV (j n : Nat) (a : UE) : US := fun P ρ => a ρ fun d ρ1 => muSt' ρ1[j]? fun l fp => ∃ z, ρ1[n]? = some (.val (.str z)) ∧ l.length < 1000 ∧ P.nx (ρ1.set j (.mu (muS (putS l z d)) fp))
def uDSetTx (j n : Nat) (c : Int) (a : UE) : US := fun P ρ => a ρ fun d ρ1 => muSt' ρ1[j]? fun l fp => ∃ xs z, ρ1[n]? = some (.val (.tup xs)) ∧ atI xs c = some (.str z) ∧ l.length < 1000 ∧ P.nx (ρ1.set j (.mu (muS (putS l z d)) fp))
theorem e_dsetV {j n : Nat} {a : UE} {P : UEnds} {ρ : Env} : uDSetV j n a P ρ = a ρ fun d ρ1 => muSt' ρ1[j]? fun l fp => ∃ z, ρ1[n]? = some (.val (.str z)) ∧ l.length < 1000 ∧ P.nx (ρ1.set j (.mu (muS (putS l z d)) fp)) := rfl
theorem e_dsetTx {j n : Nat} {c : Int} {a : UE} {P : UEnds} {ρ : Env} : uDSetTx j n c a P ρ = a ρ fun d ρ1 => muSt' ρ1[j]? fun l fp => ∃ xs z, ρ1[n]? = some (.val (.tup xs)) ∧ atI xs c = some (.str z) ∧ l.length < 1000 ∧ P.nx (ρ1.set j (.mu (muS (putS l z d)) fp)) := rfl
def uDInV (neg : Bool) (j n : Nat) : UE := fun ρ P => muSt' ρ[j]? fun l _ => ∃ z, ρ[n]? = some (.val (.str z)) ∧ P (.bl (if neg then !(lookS l z).isSome else (lookS l z).isSome)) ρ
def uDIxV (j n : Nat) : UE := fun ρ P => muSt' ρ[j]? fun l _ => ∃ z d, ρ[n]? = some (.val (.str z)) ∧ lookS l z = some d ∧ P d ρ
theorem e_dinV {neg : Bool} {j n : Nat} {ρ : Env} {P : D → Env → Prop} : uDInV neg j n ρ P = muSt' ρ[j]? fun l _ => ∃ z, ρ[n]? = some (.val (.str z)) ∧ P (.bl (if neg then !(lookS l z).isSome else (lookS l z).isSome)) ρ := rfl
theorem e_dixV {j n : Nat} {ρ : Env} {P : D → Env → Prop} : uDIxV j n ρ P = muSt' ρ[j]? fun l _ => ∃ z d, ρ[n]? = some (.val (.str z)) ∧ lookS l z = some d ∧ P d ρ := rfl
def uDFrz (j : Nat) : UE := fun ρ P => muSt' ρ[j]? fun l _ => P (.dct (l.map (·.1)) (l.map (·.2))) (ρ.set j (.val (.dct (l.map (·.1)) (l.map (·.2)))))
theorem e_dfrz {j : Nat} {ρ : Env} {P : D → Env → Prop} : uDFrz j ρ P = muSt' ρ[j]? fun l _ => P (.dct (l.map (·.1)) (l.map (·.2))) (ρ.set j (.val (.dct (l.map (·.1)) (l.map (·.2))))) := rfl
section
variable {B : Bs} {H F H' : Hp} {σ : L2.St} {ρ : Env} {j n : Nat} {ta : TE} {ua : UE}
end
end TkL


namespace TkL
open PySem PySem.Spec PySem.Calls PyProof.Rows L2 Tk
def SlN (B : Bs) (H F : Hp) (v : V) : Sl → List Addr → Prop
  | .val d, ad => Rep B.K B.C B.dO F v d ∧ ad = []
  | .own l, ad => ∃ p vs, v = .ref p ∧ ad = [p] ∧ H p = some (.lst vs) ∧ Reps B.K B.C B.dO F vs l
  | .mu M fp, ad => ∃ p, v = .ref p ∧ ad = fp ∧ M.At B.K B.C B.dO H F p fp
  | .no, _ => False
abbrev USl := Env → (Sl → Env → Prop) → Prop
abbrev USls := Env → (List Sl → Env → Prop) → Prop
inductive SlsN (B : Bs) (σ : L2.St) (ρ : Env) (H F : Hp) : List V → List Sl → List (List Addr) → Prop
  | nil : SlsN B σ ρ H F [] [] []
  | cons {v s ad vs ss ads} : SlN B H F v s ad → (∀ x ∈ ad, Car B σ ρ H F x) → (∀ x ∈ ad, ∀ bd ∈ ads, x ∉ bd) → SlsN B σ ρ H F vs ss ads → SlsN B σ ρ H F (v :: vs) (s :: ss) (ad :: ads)
def uSlV (a : UE) : USl := fun ρ P => a ρ fun d ρ1 => P (.val d) ρ1
def uSlO (a : UE) : USl := fun ρ P => a ρ fun d ρ1 => match d with | .lst l => P (.own l) ρ1 | _ => False
def uSlM {S : Type} (O : Own S) (u : Env → (S → Env → Prop) → Prop) : USl := fun ρ P => u ρ fun s ρ1 => ∀ fp, P (.mu (O.mu s) fp) ρ1
def uSlD : USl := fun ρ P => ∀ fp, P (.mu (muS []) fp) ρ
def uSNil : USls := fun ρ P => P [] ρ
def uSCons (a : USl) (b : USls) : USls := fun ρ P => a ρ fun s ρ1 => b ρ1 fun ss ρ2 => P (s :: ss) ρ2
section
variable {B : Bs} {H F H' F' : Hp} {σ : L2.St} {ρ ρ' : Env} {t ta : TE} {u : USl} {ua : UE} {A : TA} {U : USls}
theorem SlN.kx {v : V} {s : Sl} {ad : List Addr} (h : SlN B H F v s ad) (e : Ex F F') (k : ∀ x ∈ ad, H' x = H x) : SlN B H' F' v s ad := by
  cases s with
  | no => exact h
  | val d => exact ⟨h.1.ex e, h.2⟩
  | own l =>
    obtain ⟨p, vs, rfl, rfl, h1, h2⟩ := h
    exact ⟨p, vs, rfl, rfl, by rw [k p List.mem_cons_self]; exact h1, h2.ex e⟩
  | mu M fp =>
    obtain ⟨p, rfl, rfl, h1⟩ := h
    exact ⟨p, rfl, rfl, M.st h1 k e⟩
def setAll {α : Type} : List α → List Nat → List α → List α
  | ρ, i :: is, s :: ss => setAll (ρ.set i s) is ss
  | ρ, _, _ => ρ
end
def uSetS (is : List Nat) (U : USls) : US := fun P ρ => U ρ fun ss ρ1 => ss.length = is.length ∧ P.nx (setAll ρ1 is ss)
section
variable {B : Bs} {A : TA} {U : USls} {i j l : Nat}
theorem SlsN.len {σ : L2.St} {ρ : Env} {H F : Hp} {vs : List V} {ss : List Sl} {ads : List (List Addr)} (h : SlsN B σ ρ H F vs ss ads) : vs.length = ss.length := by
  induction h with
  | nil => rfl
  | cons _ _ _ _ ih => exact congrArg (· + 1) ih
theorem SlsN.kx {σ : L2.St} {ρ ρ' : Env} {H F H' F' : Hp} {vs : List V} {ss : List Sl} {ads : List (List Addr)} (R : RelH B H F) (e : Ex F F') (k : Kx B σ H F ρ H' F' ρ') (h : SlsN B σ ρ H F vs ss ads) : SlsN B σ ρ' H' F' vs ss ads := by
  induction h with
  | nil => exact .nil
  | cons g1 g2 g3 g4 ih => exact .cons (g1.kx e fun x hx => (Car.kx R (g2 x hx) k).2) (fun x hx => (Car.kx R (g2 x hx) k).1) g3 ih
end
theorem e_slV {a : UE} {ρ : Env} {P : Sl → Env → Prop} : uSlV a ρ P = a ρ fun d ρ1 => P (.val d) ρ1 := rfl
theorem e_slO {a : UE} {ρ : Env} {P : Sl → Env → Prop} : uSlO a ρ P = a ρ fun d ρ1 => match d with | .lst l => P (.own l) ρ1 | _ => False := rfl
theorem e_slM {S : Type} {O : Own S} {u : Env → (S → Env → Prop) → Prop} {ρ : Env} {P : Sl → Env → Prop} : uSlM O u ρ P = u ρ fun s ρ1 => ∀ fp, P (.mu (O.mu s) fp) ρ1 := rfl
theorem e_slD {ρ : Env} {P : Sl → Env → Prop} : uSlD ρ P = ∀ fp, P (.mu (muS []) fp) ρ := rfl
theorem e_snil {ρ : Env} {P : List Sl → Env → Prop} : uSNil ρ P = P [] ρ := rfl
theorem e_scons {a : USl} {b : USls} {ρ : Env} {P : List Sl → Env → Prop} : uSCons a b ρ P = a ρ fun s ρ1 => b ρ1 fun ss ρ2 => P (s :: ss) ρ2 := rfl
theorem e_setS {is : List Nat} {U : USls} {P : UEnds} {ρ : Env} : uSetS is U P ρ = U ρ fun ss ρ1 => ss.length = is.length ∧ P.nx (setAll ρ1 is ss) := rfl
theorem setAll_cons {ρ : Env} {i : Nat} {is : List Nat} {s : Sl} {ss : List Sl} : setAll ρ (i :: is) (s :: ss) = setAll (ρ.set i s) is ss := rfl
end TkL


namespace TkL
open PySem PySem.Spec PySem.Calls PyProof.Rows L2 Tk
def uDNewK : UE := fun ρ P => P (.dct [] []) ρ
theorem e_dnewK {ρ : Env} {P : D → Env → Prop} : uDNewK ρ P = P (.dct [] []) ρ := rfl
section
variable {B : Bs} {ta tb : TE} {ua ub : UE} {tt : TT} {ut : UT} {A : TA} {U : UA} {i : Nat}
end
end TkL


namespace TkL
open PySem PySem.Spec PySem.Calls PyProof.Rows L2 Tk
inductive Opn where
  | put (n z : Str)
  | shift (n : Str) (k : Int)
  | thin (n : Str) (k : Int)
  | pair (w n m : Str)
  | undo
  | redo
def Opn.d : Opn → D
  | .put n z => .tup [.str "put", .str n, .str z]
  | .shift n k => .tup [.str "shift", .str n, .int k]
  | .thin n k => .tup [.str "thin", .str n, .int k]
  | .pair w n m => .tup [.str w, .str n, .str m]
  | .undo => .tup [.str "undo"]
  | .redo => .tup [.str "redo"]
def Opn.w : Opn → Str
  | .put _ _ => "put"
  | .shift _ _ => "shift"
  | .thin _ _ => "thin"
  | .pair w _ _ => w
  | .undo => "undo"
  | .redo => "redo"
def Opn.n : Opn → Str
  | .put n _ => n
  | .shift n _ => n
  | .thin n _ => n
  | .pair _ n _ => n
  | .undo => ""
  | .redo => ""
def Opn.Chg : Opn → Prop
  | .undo => False
  | .redo => False
  | _ => True
def InN (n : Str) : Prop := n = "ann" ∨ n = "bob" ∨ n = "cy" ∨ n = "nobody"
def OddT (z : Str) : Prop := z = "5 3 x" ∨ z = "0 | 0" ∨ z = ""
structure ShortR (r : RV) : Prop where
  rb : RB r
  bb : r.beg ≤ 200
  lb : r.len ≤ 10
def Opn.Ok : Opn → Prop
  | .put n z => (n = "ann" ∨ n = "bob" ∨ n = "cy" ∨ n = "Bob") ∧ (OddT z ∨ ∃ r, ShortR r ∧ z = rowText r)
  | .shift n k => InN n ∧ ((0 ≤ k ∧ k < 200) ∨ k = 100001)
  | .thin n k => InN n ∧ ((0 ≤ k ∧ k ≤ 3) ∨ k = 20001)
  | .pair w n m => (w = "join" ∨ w = "meet" ∨ w = "leave") ∧ InN n ∧ InN m
  | _ => True
def Opn.Wd : Opn → Prop
  | .pair w _ _ => w = "join" ∨ w = "meet" ∨ w = "leave"
  | _ => True
theorem Opn.Ok.wd {op : Opn} (h : op.Ok) : op.Wd := by
  cases op with
  | pair w n m => exact h.1
  | _ => trivial
abbrev Rws := List (Str × RV)
def RsOk (l : Rws) : Prop := ∀ p ∈ l, RB p.2 ∧ p.2.beg ≤ 100000
def ChgR (l : Rws) : Opn → RV → Prop
  | .put n z, q => NameOk n ∧ ShortR q ∧ z = rowText q
  | .shift n k, q => ∃ r, lookS l n = some r ∧ 0 ≤ k ∧ k ≤ 100000 ∧ r.beg + k ≤ 100000 ∧ ∀ t, q.has t = r.has (t - k)
  | .thin n k, q => ∃ r, lookS l n = some r ∧ 1 ≤ k ∧ k ≤ 20000 ∧ r.len * k ≤ 20000 ∧ ∀ t, q.has t = (r.has t && decide ((r.count t - 1) % k = 0))
  | .pair w n m, q => ∃ r s, lookS l n = some r ∧ lookS l m = some s ∧ lcmI r.len s.len ≤ 20000 ∧ ((w = "join" ∧ ∀ t, q.has t = (r.has t || s.has t)) ∨ (w = "meet" ∧ ∀ t, q.has t = (r.has t && s.has t)) ∨ (w = "leave" ∧ ∀ t, q.has t = (r.has t && !s.has t)))
  | _, _ => False
structure ChgQ (l : Rws) (op : Opn) (q : RV) : Prop where
  rb : RB q
  bb : q.beg ≤ 100000
  ch : ChgR l op q
structure HistOk (ops : List HOp) (k : Nat) : Prop where
  hk : k ≤ ops.length
  hl : ops.length < 60
  rs : ∀ o ∈ ops, RB o.r ∧ o.r.beg ≤ 100000
def Opn.ho (op : Opn) (q : RV) : HOp := ⟨op.w, op.n, q⟩
def addO (ops : List HOp) (k : Nat) (op : Opn) (q : RV) : List HOp := ops.take k ++ [op.ho q]
def rsO (ops : List HOp) (k : Nat) : Rws := rowsF [] (ops.take k)
theorem RsOk.put {l : Rws} (h : RsOk l) {n : Str} {r : RV} (rb : RB r) (hb : r.beg ≤ 100000) : RsOk (putS l n r) := fun p hp => by
  cases hn : lookS l n with
  | none =>
    rw [put_new hn] at hp
    rcases List.mem_append.mp hp with z | z
    · exact h p z
    · rw [List.mem_singleton.mp z]; exact ⟨rb, hb⟩
  | some r0 =>
    rw [put_in (by rw [hn]; rfl)] at hp
    obtain ⟨p0, h0, rfl⟩ := List.mem_map.mp hp
    split
    · exact ⟨rb, hb⟩
    · exact h p0 h0
theorem rows_ok : ∀ {os : List HOp} {l : Rws}, RsOk l → (∀ o ∈ os, RB o.r ∧ o.r.beg ≤ 100000) → RsOk (rowsF l os)
  | [], _, h, _ => h
  | o :: os, l, h, ho => rows_ok (os := os) (l := putO l o) (h.put (ho o List.mem_cons_self).1 (ho o List.mem_cons_self).2) fun x hx => ho x (List.mem_cons_of_mem _ hx)
theorem HistOk.rows {ops : List HOp} {k : Nat} (h : HistOk ops k) (j : Nat) : RsOk (rsO ops j) := rows_ok (fun p hp => nomatch hp) fun o ho => h.rs o (List.mem_of_mem_take ho)
theorem HistOk.at {ops : List HOp} {k : Nat} (h : HistOk ops k) {j : Nat} (hj : j ≤ ops.length) : HistOk ops j := ⟨hj, h.hl, h.rs⟩
end TkL


namespace TkL
open PySem PySem.Spec PySem.Calls PyProof.Rows L2 Tk
def uIdxS (a : UE) (U : UA) : UE := fun ρ P => a ρ fun x ρ1 => match x with
  | .lst l => U ρ1 fun xs ρ2 => ∃ (ns : List Str) (n : Str) (k : Nat), l = strL ns ∧ xs = [.str n] ∧ ns[k]? = some n ∧ (∀ (j : Nat) (z : Str), j < k → ns[j]? = some z → z ≠ n) ∧ P (.int (k : Nat)) ρ2
  | _ => False
section
variable {B : Bs} {ta : TE} {ua : UE} {A : TA} {U : UA}
end
theorem e_idxS {a : UE} {U : UA} {ρ : Env} {Q : D → Env → Prop} : uIdxS a U ρ Q = a ρ fun x ρ1 => match x with
  | .lst l => U ρ1 fun xs ρ2 => ∃ (ns : List Str) (n : Str) (k : Nat), l = strL ns ∧ xs = [.str n] ∧ ns[k]? = some n ∧ (∀ (j : Nat) (z : Str), j < k → ns[j]? = some z → z ≠ n) ∧ Q (.int (k : Nat)) ρ2
  | _ => False := rfl
end TkL



namespace TkL
open PySem PySem.Spec PySem.Calls PyProof.Rows L2 Tk
section
variable (K : PySem.W.Frag) (C : Addr) (CJ : Addr) (CR : Addr)
end
end TkL


namespace TkL
open PySem PySem.Spec PySem.Calls PyProof.Rows L2 Tk
end TkL
local macro_rules | `(tactic| walk_at "ewq") => do
  let nms (s : String) := (s.splitOn " ").toArray.map fun x => Lean.mkIdent x.toName
  let x1 := nms "TkL.LCT TkL.wipeU TkL.e_lc TkL.e_for TkL.e_seq TkL.e_next TkL.e_break TkL.e_cont TkL.e_asg TkL.e_name TkL.e_asgO TkL.e_par TkL.e_par3 TkL.e_par_vo TkL.e_drop TkL.e_ret TkL.e_retN TkL.e_ifS TkL.e_c TkL.e_op TkL.e_un TkL.e_nil TkL.e_cons TkL.e_cb TkL.e_if TkL.e_andV TkL.e_orV TkL.e_notV TkL.e_B TkL.e_and TkL.e_or TkL.e_not TkL.e_yes TkL.e_chain TkL.e_tup TkL.e_lst TkL.e_def TkL.e_row TkL.e_prp TkL.e_cm TkL.e_tru TkL.e_notT TkL.e_truO TkL.e_mrk TkL.e_part TkL.e_noPart TkL.e_slL TkL.e_slT TkL.e_bms TkL.e_gtup TkL.e_gunl TkL.e_app TkL.e_irng1 TkL.e_irng2 TkL.e_il TkL.e_it TkL.e_qI TkL.e_qI0 TkL.e_exB TkL.e_exR TkL.e_qUpR TkL.e_qUpI TkL.e_qUpN TkL.e_qEqI TkL.e_qNeI TkL.e_qEqB TkL.e_qNeB TkL.e_qEqS TkL.e_qCat TkL.e_qCatA TkL.e_qIxL TkL.e_qIxT TkL.e_len TkL.e_lenT TkL.e_int TkL.e_intB TkL.e_tuple TkL.e_list TkL.e_listL TkL.e_max2 TkL.e_min2 TkL.e_qMrk TkL.e_qMrkN TkL.e_eqT TkL.e_neT TkL.e_eqT0 TkL.e_eqLB TkL.e_neLB TkL.e_notO TkL.e_neg TkL.iL_len List.getElem?_cons_zero List.getElem?_cons_succ List.set_cons_zero List.set_cons_succ List.length_cons List.length_nil Nat.zero_add Nat.reduceAdd Nat.reduceLeDiff true_and and_true if_true if_false Bool.false_eq_true ite_true ite_false reduceIte Bool.not_true Bool.not_false decide_true decide_false Bool.true_eq_false reduceCtorEq TkL.ev_v0 TkL.ev_o0 TkL.ev_p0 TkL.ev_q0 TkL.ev_v1 TkL.ev_o1 TkL.ev_p1 TkL.ev_q1 TkL.ev_v2 TkL.ev_o2 TkL.ev_p2 TkL.ev_q2 TkL.ev_v3 TkL.ev_o3 TkL.ev_p3 TkL.ev_q3 TkL.ev_v4 TkL.ev_o4 TkL.ev_p4 TkL.ev_q4 TkL.ev_v5 TkL.ev_o5 TkL.ev_p5 TkL.ev_q5 TkL.ev_v6 TkL.ev_o6 TkL.ev_p6 TkL.ev_q6 TkL.ev_v7 TkL.ev_o7 TkL.ev_p7 TkL.ev_q7 TkL.ev_v8 TkL.ev_o8 TkL.ev_p8 TkL.ev_q8 TkL.ev_v9 TkL.ev_o9 TkL.ev_p9 TkL.ev_q9 TkL.ev_v10 TkL.ev_o10 TkL.ev_p10 TkL.ev_q10 TkL.ev_v11 TkL.ev_o11 TkL.ev_p11 TkL.ev_q11 TkL.ev_v12 TkL.ev_o12 TkL.ev_p12 TkL.ev_q12 TkL.ev_v13 TkL.ev_o13 TkL.ev_p13 TkL.ev_q13 TkL.ev_v14 TkL.ev_o14 TkL.ev_p14 TkL.ev_q14 TkL.ev_v15 TkL.ev_o15 TkL.ev_p15 TkL.ev_q15 TkL.ev_v16 TkL.ev_o16 TkL.ev_p16 TkL.ev_q16 TkL.ev_v17 TkL.ev_o17 TkL.ev_p17 TkL.ev_q17 TkL.ev_v18 TkL.ev_o18 TkL.ev_p18 TkL.ev_q18 TkL.ev_v19 TkL.ev_o19 TkL.ev_p19 TkL.ev_q19 TkL.ev_v20 TkL.ev_o20 TkL.ev_p20 TkL.ev_q20 TkL.ev_v21 TkL.ev_o21 TkL.ev_p21 TkL.ev_q21 TkL.ev_v22 TkL.ev_o22 TkL.ev_p22 TkL.ev_q22 TkL.ev_v23 TkL.ev_o23 TkL.ev_p23 TkL.ev_q23 TkL.ev_v24 TkL.ev_o24 TkL.ev_p24 TkL.ev_q24 TkL.ev_v25 TkL.ev_o25 TkL.ev_p25 TkL.ev_q25 TkL.ev_v26 TkL.ev_o26 TkL.ev_p26 TkL.ev_q26 TkL.ev_v27 TkL.ev_o27 TkL.ev_p27 TkL.ev_q27 TkL.ev_v28 TkL.ev_o28 TkL.ev_p28 TkL.ev_q28 TkL.ev_v29 TkL.ev_o29 TkL.ev_p29 TkL.ev_q29 TkL.ev_v30 TkL.ev_o30 TkL.ev_p30 TkL.ev_q30 TkL.ev_v31 TkL.ev_o31 TkL.ev_p31 TkL.ev_q31 TkL.ev_v32 TkL.ev_o32 TkL.ev_p32 TkL.ev_q32 TkL.ev_v33 TkL.ev_o33 TkL.ev_p33 TkL.ev_q33"
  let t1 ← `(tactic| simp -implicitDefEqProofs only [$[$x1:ident],*])
  `(tactic| $t1:tactic)
namespace TkL
open PySem PySem.Spec PySem.Calls PyProof.Rows L2 Tk
end TkL


namespace TkL
open PySem PySem.Spec PySem.Calls PyProof.Rows L2 Tk
end TkL


namespace TkL
open PySem PySem.Spec PySem.Calls PyProof.Rows L2 Tk
end TkL


namespace TkL
open PySem PySem.Spec PySem.Calls PyProof.Rows L2 Tk
theorem sd_put_undo : decide (Str.ofString "put" = Str.ofString "undo") = false := by decide +kernel
theorem sd_put_redo : decide (Str.ofString "put" = Str.ofString "redo") = false := by decide +kernel
theorem sd_shift_undo : decide (Str.ofString "shift" = Str.ofString "undo") = false := by decide +kernel
theorem sd_shift_redo : decide (Str.ofString "shift" = Str.ofString "redo") = false := by decide +kernel
theorem sd_thin_undo : decide (Str.ofString "thin" = Str.ofString "undo") = false := by decide +kernel
theorem sd_thin_redo : decide (Str.ofString "thin" = Str.ofString "redo") = false := by decide +kernel
theorem sd_join_undo : decide (Str.ofString "join" = Str.ofString "undo") = false := by decide +kernel
theorem sd_join_redo : decide (Str.ofString "join" = Str.ofString "redo") = false := by decide +kernel
theorem sd_meet_undo : decide (Str.ofString "meet" = Str.ofString "undo") = false := by decide +kernel
theorem sd_meet_redo : decide (Str.ofString "meet" = Str.ofString "redo") = false := by decide +kernel
theorem sd_leave_undo : decide (Str.ofString "leave" = Str.ofString "undo") = false := by decide +kernel
theorem sd_leave_redo : decide (Str.ofString "leave" = Str.ofString "redo") = false := by decide +kernel
theorem ShortR.parse {r : RV} (sr : ShortR r) : ∃ S, parseSet (rowText r) = some S ∧ ∀ t, S t = r.has t := by
  have rb := sr.rb
  have w := rb.c.wf
  have b0 := sr.bb
  have l0 := sr.lb
  exact parse_text rb (fun ho => by
      have ol := List.length_pos_iff.mpr ho
      have m : r.offs.getD 0 0 ∈ r.offs := by rw [List.getD_eq_getElem?_getD, List.getElem?_eq_getElem ol]; exact List.getElem_mem ol
      have := w.ow _ m
      omega) (fun ho => by
      by_cases he : r.early = []
      · rw [he]; decide
      · have lm : r.early.getLastD 0 ∈ r.early := by
          rw [List.getLastD_eq_getLast?, List.getLast?_eq_some_getLast he]
          exact List.getLast_mem he
        have := w.er _ lm
        omega)
theorem odd_none {z : Str} (h : OddT z) : (parseSet z).isNone = true := by
  rcases h with rfl | rfl | rfl <;> decide +kernel
theorem ShortR.odd {r : RV} (sr : ShortR r) : ¬ OddT (rowText r) := fun h => by
  obtain ⟨S, e, _⟩ := sr.parse
  have := odd_none h
  rw [e] at this
  cases this
end TkL
local macro_rules | `(tactic| walk_at "ewkk") => do
  let nms (s : String) := (s.splitOn " ").toArray.map fun x => Lean.mkIdent x.toName
  let x1 := nms "TkL.e_dget TkL.e_din TkL.e_idxS Option.map_none Option.map_some Option.isSome_none Option.isSome_some TkL.sd_put_undo TkL.sd_put_redo TkL.sd_shift_undo TkL.sd_shift_redo TkL.sd_thin_undo TkL.sd_thin_redo TkL.sd_join_undo TkL.sd_join_redo TkL.sd_meet_undo TkL.sd_meet_redo TkL.sd_leave_undo TkL.sd_leave_redo Bool.not_not TkL.e_retT TkL.e_qseq TkL.e_qret TkL.e_asgQ TkL.e_asgUT TkL.e_parVM TkL.o_muR TkL.e_rMk TkL.e_rNotIn TkL.e_rItem TkL.e_rGet TkL.e_rEqP TkL.e_rEqU TkL.e_rPut TkL.e_rPop TkL.e_rAppP TkL.e_rAppU TkL.e_rPopP TkL.e_rPopU TkL.e_rClr TkL.e_mifr TkL.e_metR TkL.e_istr TkL.e_raiseE TkL.e_try1 TkL.e_ce TkL.e_cer TkL.e_cec TkL.e_ceo TkL.e_cev TkL.e_cei TkL.e_tellE TkL.e_defX TkL.e_metX TkL.e_asgT TkL.e_catT TkL.e_appT TkL.e_allJ TkL.allU_nil TkL.allU_cons TkL.e_par_ov TkL.e_tell TkL.e_tellU TkL.e_dropApp TkL.e_par_vN TkL.e_asgLs TkL.e_parLO TkL.e_parMM TkL.e_lcO TkL.e_rev TkL.e_mseq TkL.e_mret TkL.e_mretN TkL.e_met TkL.e_cnt TkL.e_lrng TkL.e_asgM TkL.e_parMV TkL.e_jmk TkL.o_mu TkL.e_idx TkL.e_fB TkL.e_fL TkL.e_fE TkL.e_fO TkL.e_never TkL.e_enum TkL.e_rng3 TkL.e_ext TkL.e_augI TkL.e_bor TkL.e_retO TkL.e_retNO TkL.e_par_ovv TkL.e_mk TkL.e_setI TkL.e_g0 TkL.e_gThen TkL.e_gPl TkL.e_gYield TkL.e_gFor TkL.lcs_nil TkL.lcs_cons TkL.fors_nil TkL.fors_cons List.nil_append List.cons_append Nat.reduceLT"
  let t1 ← `(tactic| simp -implicitDefEqProofs only [$[$x1:ident],*])
  `(tactic| repeat (first | ($t1:tactic) | walk_at "ewq" | (with_reducible refine And.intro (TkL.muRt_i trivial) ?_) | (with_reducible refine TkL.muRt_i ?_) | (with_reducible refine And.intro (TkL.muSR_i trivial) ?_) | (with_reducible refine TkL.muSR_i ?_) | (with_reducible refine TkL.muTt_i ?_)))
namespace TkL
open PySem PySem.Spec PySem.Calls PyProof.Rows L2 Tk
end TkL


namespace TkL
open PySem PySem.Spec PySem.Calls PyProof.Rows L2 Tk
theorem e_nn2 {l : List D} {P : D → Prop} : qNotNon (.tup l) .non P = P (.bl true) := rfl
theorem e_nn3 {P : D → Prop} : qNotNon .non .non P = P (.bl false) := rfl
end TkL
local macro_rules | `(tactic| walk_at "ewyy") => do
  let nms (s : String) := (s.splitOn " ").toArray.map fun x => Lean.mkIdent x.toName
  let x1 := nms "TkL.e_dcopy TkL.e_dsetTx TkL.e_dfrz TkL.e_nn2 TkL.e_nn3 TkL.e_dget TkL.e_din TkL.e_idxS Option.map_none Option.map_some Option.isSome_none Option.isSome_some TkL.sd_put_undo TkL.sd_put_redo TkL.sd_shift_undo TkL.sd_shift_redo TkL.sd_thin_undo TkL.sd_thin_redo TkL.sd_join_undo TkL.sd_join_redo TkL.sd_meet_undo TkL.sd_meet_redo TkL.sd_leave_undo TkL.sd_leave_redo Bool.not_not TkL.e_retT TkL.e_qseq TkL.e_qret TkL.e_asgQ TkL.e_asgUT TkL.e_parVM TkL.o_muR TkL.e_rMk TkL.e_rNotIn TkL.e_rItem TkL.e_rGet TkL.e_rEqP TkL.e_rEqU TkL.e_rPut TkL.e_rPop TkL.e_rAppP TkL.e_rAppU TkL.e_rPopP TkL.e_rPopU TkL.e_rClr TkL.e_mifr TkL.e_metR TkL.e_istr TkL.e_raiseE TkL.e_try1 TkL.e_ce TkL.e_cer TkL.e_cec TkL.e_ceo TkL.e_cev TkL.e_cei TkL.e_tellE TkL.e_defX TkL.e_metX TkL.e_asgT TkL.e_catT TkL.e_appT TkL.e_allJ TkL.allU_nil TkL.allU_cons TkL.e_par_ov TkL.e_tell TkL.e_tellU TkL.e_dropApp TkL.e_par_vN TkL.e_asgLs TkL.e_parLO TkL.e_parMM TkL.e_lcO TkL.e_rev TkL.e_mseq TkL.e_mret TkL.e_mretN TkL.e_met TkL.e_cnt TkL.e_lrng TkL.e_asgM TkL.e_parMV TkL.e_jmk TkL.o_mu TkL.e_idx TkL.e_fB TkL.e_fL TkL.e_fE TkL.e_fO TkL.e_never TkL.e_enum TkL.e_rng3 TkL.e_ext TkL.e_augI TkL.e_bor TkL.e_retO TkL.e_retNO TkL.e_par_ovv TkL.e_mk TkL.e_setI TkL.e_g0 TkL.e_gThen TkL.e_gPl TkL.e_gYield TkL.e_gFor TkL.lcs_nil TkL.lcs_cons TkL.fors_nil TkL.fors_cons List.nil_append List.cons_append Nat.reduceLT"
  let t1 ← `(tactic| simp -implicitDefEqProofs only [$[$x1:ident],*])
  let r2 ← (nms "TkL.muSR_i TkL.muTt_i TkL.muDs_i").mapM fun (x : Lean.Ident) => `(tactic| with_reducible refine $x:ident ?_)
  let t2 ← `(tactic| first $[| $r2:tactic]*)
  `(tactic| repeat (first | ($t1:tactic) | walk_at "ewq" | (with_reducible refine And.intro (TkL.muRt_i trivial) ?_) | (with_reducible refine TkL.muRt_i ?_) | (with_reducible refine And.intro (TkL.muSR_i trivial) ?_) | ($t2:tactic)))
namespace TkL
open PySem PySem.Spec PySem.Calls PyProof.Rows L2 Tk

section
variable {ops : List HOp} {k : Nat}
end
theorem Opn.Chg.d {op : Opn} (h : op.Chg) : ∃ x, op.d = .tup [.str op.w, .str op.n, x] := by
  cases op with
  | undo => exact h.elim
  | redo => exact h.elim
  | _ => exact ⟨_, rfl⟩
theorem Opn.Chg.w {op : Opn} (h : op.Chg) (ok : op.Ok) : decide (op.w = Str.ofString "undo") = false ∧ decide (op.w = Str.ofString "redo") = false := by
  cases op with
  | undo => exact h.elim
  | redo => exact h.elim
  | put n z => exact ⟨sd_put_undo, sd_put_redo⟩
  | shift n z => exact ⟨sd_shift_undo, sd_shift_redo⟩
  | thin n z => exact ⟨sd_thin_undo, sd_thin_redo⟩
  | pair w n z =>
    obtain ⟨hw, _⟩ := ok
    rcases hw with rfl | rfl | rfl
    · exact ⟨sd_join_undo, sd_join_redo⟩
    · exact ⟨sd_meet_undo, sd_meet_redo⟩
    · exact ⟨sd_leave_undo, sd_leave_redo⟩
end TkL


namespace TkL
open PySem PySem.Spec PySem.Calls PyProof.Rows L2 Tk
section
variable {ops : List HOp} {k : Nat} {sv : List (Str × RcT)} {Q : D → RcS → Prop}
end
section
variable {CR : Addr} (po : Option Addr) (s : RcS) (fp : List Addr) (ds : List D) (P : D → RcS → Prop)
end
end TkL



namespace TkL
open PySem PySem.Spec PySem.Calls PyProof.Rows L2 Tk
section
variable (K : PySem.W.Frag) (C : Addr) (CJ : Addr) (CR : Addr) (cls : Addr) (E : XK)
end
end TkL


namespace TkL
open PySem PySem.Spec PySem.Calls PyProof.Rows L2 Tk
section
variable {K : PySem.W.Frag} {C CR cls : Addr} {N : List Str} {vs : List V} {H : Hp} {Q : VK} {E : XK}
end
end TkL


namespace TkL
open PySem PySem.Spec PySem.Calls PyProof.Rows L2 Tk
theorem e_isNonT {l : List D} {P : D → Prop} : qIsNon (.tup l) .non P = P (.bl false) := rfl
theorem e_isNonN {P : D → Prop} : qIsNon .non .non P = P (.bl true) := rfl
end TkL
local macro_rules | `(tactic| walk_at "ewL") => do
  let nms (s : String) := (s.splitOn " ").toArray.map fun x => Lean.mkIdent x.toName
  let x1 := nms "TkL.e_slV TkL.e_slM TkL.e_slD TkL.e_snil TkL.e_scons TkL.e_setS TkL.setAll_cons TkL.e_dnewK TkL.e_dsetV TkL.e_dinV TkL.e_dixV TkL.e_tell TkL.e_rMk TkL.e_isNonT TkL.e_isNonN List.foldl_cons List.foldl_nil TkL.e_dcopy TkL.e_dsetTx TkL.e_dfrz TkL.e_nn2 TkL.e_nn3 TkL.e_dget TkL.e_din TkL.e_idxS Option.map_none Option.map_some Option.isSome_none Option.isSome_some TkL.sd_put_undo TkL.sd_put_redo TkL.sd_shift_undo TkL.sd_shift_redo TkL.sd_thin_undo TkL.sd_thin_redo TkL.sd_join_undo TkL.sd_join_redo TkL.sd_meet_undo TkL.sd_meet_redo TkL.sd_leave_undo TkL.sd_leave_redo Bool.not_not TkL.e_retT TkL.e_qseq TkL.e_qret TkL.e_asgQ TkL.e_asgUT TkL.e_parVM TkL.o_muR TkL.e_rMk TkL.e_rNotIn TkL.e_rItem TkL.e_rGet TkL.e_rEqP TkL.e_rEqU TkL.e_rPut TkL.e_rPop TkL.e_rAppP TkL.e_rAppU TkL.e_rPopP TkL.e_rPopU TkL.e_rClr TkL.e_mifr TkL.e_metR TkL.e_istr TkL.e_raiseE TkL.e_try1 TkL.e_ce TkL.e_cer TkL.e_cec TkL.e_ceo TkL.e_cev TkL.e_cei TkL.e_tellE TkL.e_defX TkL.e_metX TkL.e_asgT TkL.e_catT TkL.e_appT TkL.e_allJ TkL.allU_nil TkL.allU_cons TkL.e_par_ov TkL.e_tell TkL.e_tellU TkL.e_dropApp TkL.e_par_vN TkL.e_asgLs TkL.e_parLO TkL.e_parMM TkL.e_lcO TkL.e_rev TkL.e_mseq TkL.e_mret TkL.e_mretN TkL.e_met TkL.e_cnt TkL.e_lrng TkL.e_asgM TkL.e_parMV TkL.e_jmk TkL.o_mu TkL.e_idx TkL.e_fB TkL.e_fL TkL.e_fE TkL.e_fO TkL.e_never TkL.e_enum TkL.e_rng3 TkL.e_ext TkL.e_augI TkL.e_bor TkL.e_retO TkL.e_retNO TkL.e_par_ovv TkL.e_mk TkL.e_setI TkL.e_g0 TkL.e_gThen TkL.e_gPl TkL.e_gYield TkL.e_gFor TkL.lcs_nil TkL.lcs_cons TkL.fors_nil TkL.fors_cons List.nil_append List.cons_append Nat.reduceLT"
  let t1 ← `(tactic| simp -implicitDefEqProofs only [$[$x1:ident],*])
  let r2 ← (nms "TkL.muSR_i TkL.muTt_i TkL.muDs_i").mapM fun (x : Lean.Ident) => `(tactic| with_reducible refine $x:ident ?_)
  let t2 ← `(tactic| first $[| $r2:tactic]*)
  `(tactic| repeat (first | ($t1:tactic) | walk_at "ewq" | (with_reducible refine And.intro (TkL.muRt_i trivial) ?_) | (with_reducible refine TkL.muRt_i ?_) | (with_reducible refine And.intro (TkL.muSR_i trivial) ?_) | ($t2:tactic)))
namespace TkL
open PySem PySem.Spec PySem.Calls PyProof.Rows L2 Tk

section
variable {ops : List HOp} {k : Nat} {sv : List (Str × RcT)} {Q : D → Prop} {P : D → RcS → Prop}
def dnK (k : Nat) : Nat := k - 1
def upK (ops : List HOp) (k : Nat) : Nat := if k < ops.length then k + 1 else k
theorem HistOk.up (H : HistOk ops k) : HistOk ops (upK ops k) := H.at (by have := H.hk; unfold upK; split <;> omega)
inductive StepO (ops : List HOp) (k : Nat) (op : Opn) : List HOp → Nat → D → Prop
  | undo (h : op = .undo) : StepO ops k op ops (dnK k) (.bl (decide (0 < k)))
  | redo (h : op = .redo) : StepO ops k op ops (upK ops k) (.bl (decide (k < ops.length)))
  | chg (q : RV) (c : op.Chg) (h : ChgQ (rsO ops k) op q) : StepO ops k op (addO ops k op q) (k + 1) (.str (rowText q))
theorem StepO.pl {op : Opn} {ops' : List HOp} {k' : Nat} {d : D} (s : StepO ops k op ops' k' d) {n : Nat} : PlD n d := by
  cases s <;> cases n <;> trivial
end
end TkL


namespace TkL
open PySem PySem.Spec PySem.Calls PyProof.Rows L2 Tk
abbrev UMEX (S : Type) := S → List D → (D → S → Prop) → (Nat → List D → S → Prop) → Prop
section
variable {K : PySem.W.Frag} {C CR : Addr} {cs : Nat → Addr} {N : List Str} {vs : List V} {H : Hp} {Q : VK} {E : XK}
end
def uMEr (CR : Addr) (i : Nat) (g : UMEX RcS) (a : UA) : UCE := fun ρ P PX => ∃ po s0 fp0, ρ[i]? = some (.mu (muR CR po s0) fp0) ∧ a ρ fun ds ρ1 => ∃ s fp, ρ1[i]? = some (.mu (muR CR po s) fp) ∧ g s ds (fun d s' => ∀ fp', P d (ρ1.set i (.mu (muR CR po s') fp'))) fun j es s' => ∀ fp', PX j es (ρ1.set i (.mu (muR CR po s') fp'))
def uMEd {S : Type} (O : Own S) (i : Nat) (g : UMEX S) (a : UA) : UCE := fun ρ P PX => muSt O ρ[i]? (fun _ _ => True) ∧ a ρ fun ds ρ1 => muSt O ρ1[i]? fun s _ => g s ds (fun d s' => ∀ fp', P d (ρ1.set i (.mu (O.mu s') fp'))) fun j es s' => ∀ fp', PX j es (ρ1.set i (.mu (O.mu s') fp'))
theorem e_mer {CR : Addr} {i : Nat} {g : UMEX RcS} {a : UA} {ρ : Env} {P : D → Env → Prop} {PX : Nat → List D → Env → Prop} : uMEr CR i g a ρ P PX = ∃ po s0 fp0, ρ[i]? = some (.mu (muR CR po s0) fp0) ∧ a ρ fun ds ρ1 => ∃ s fp, ρ1[i]? = some (.mu (muR CR po s) fp) ∧ g s ds (fun d s' => ∀ fp', P d (ρ1.set i (.mu (muR CR po s') fp'))) fun j es s' => ∀ fp', PX j es (ρ1.set i (.mu (muR CR po s') fp')) := rfl
theorem e_med {S : Type} {O : Own S} {i : Nat} {g : UMEX S} {a : UA} {ρ : Env} {P : D → Env → Prop} {PX : Nat → List D → Env → Prop} : uMEd O i g a ρ P PX = (muSt O ρ[i]? (fun _ _ => True) ∧ a ρ fun ds ρ1 => muSt O ρ1[i]? fun s _ => g s ds (fun d s' => ∀ fp', P d (ρ1.set i (.mu (O.mu s') fp'))) fun j es s' => ∀ fp', PX j es (ρ1.set i (.mu (O.mu s') fp'))) := rfl
section
variable {B : Bs} {CR : Addr} {cs : Nat → Addr} {i : Nat} {m : Str} {A : TA} {U : UA}
end
end TkL


namespace TkL
open PySem PySem.Spec PySem.Calls PyProof.Rows L2 Tk
def uCEn (g : UEX) (a b : UE) : UCE := fun ρ P PX => a ρ fun x ρ1 => b ρ1 fun y ρ2 => (∃ r i, x = .row r ∧ y = .int i) ∧ g [x, y] (fun d => P d ρ2) fun j es => PX j es ρ2
theorem e_cen {g : UEX} {a b : UE} {ρ : Env} {P : D → Env → Prop} {PX : Nat → List D → Env → Prop} : uCEn g a b ρ P PX = a ρ fun x ρ1 => b ρ1 fun y ρ2 => (∃ r i, x = .row r ∧ y = .int i) ∧ g [x, y] (fun d => P d ρ2) fun j es => PX j es ρ2 := rfl
section
variable {B : Bs} {cs : Nat → Addr} {g : UEX} {ta tb : TE} {ua ub : UE}
end
end TkL



namespace TkL
open PySem PySem.Spec PySem.Calls PyProof.Rows L2 Tk
section
variable (K : PySem.W.Frag) (C : Addr) (CJ : Addr) (cs : Nat → Addr) (E : XK)
end
end TkL



namespace TkL
open PySem PySem.Spec PySem.Calls PyProof.Rows L2 Tk
section
variable (K : PySem.W.Frag) (C : Addr) (CJ : Addr) (CR : Addr) (cs : Nat → Addr) (E : XK)
end
end TkL



namespace TkL
open PySem PySem.Spec PySem.Calls PyProof.Rows L2 Tk
section
variable (K : PySem.W.Frag) (C : Addr) (CJ : Addr) (CR : Addr) (cs : Nat → Addr) (E : XK)
end
end TkL


namespace TkL
open PySem PySem.Spec PySem.Calls PyProof.Rows L2 Tk
end TkL
local macro_rules | `(tactic| walk_at "ewE") => do
  let nms (s : String) := (s.splitOn " ").toArray.map fun x => Lean.mkIdent x.toName
  let x1 := nms "TkL.e_mer TkL.e_med TkL.e_cen TkL.e_rNotIn TkL.e_rItem TkL.e_slV TkL.e_slM TkL.e_slD TkL.e_snil TkL.e_scons TkL.e_setS TkL.setAll_cons TkL.e_dnewK TkL.e_dsetV TkL.e_dinV TkL.e_dixV TkL.e_tell TkL.e_rMk TkL.e_isNonT TkL.e_isNonN List.foldl_cons List.foldl_nil TkL.e_dcopy TkL.e_dsetTx TkL.e_dfrz TkL.e_nn2 TkL.e_nn3 TkL.e_dget TkL.e_din TkL.e_idxS Option.map_none Option.map_some Option.isSome_none Option.isSome_some TkL.sd_put_undo TkL.sd_put_redo TkL.sd_shift_undo TkL.sd_shift_redo TkL.sd_thin_undo TkL.sd_thin_redo TkL.sd_join_undo TkL.sd_join_redo TkL.sd_meet_undo TkL.sd_meet_redo TkL.sd_leave_undo TkL.sd_leave_redo Bool.not_not TkL.e_retT TkL.e_qseq TkL.e_qret TkL.e_asgQ TkL.e_asgUT TkL.e_parVM TkL.o_muR TkL.e_rMk TkL.e_rNotIn TkL.e_rItem TkL.e_rGet TkL.e_rEqP TkL.e_rEqU TkL.e_rPut TkL.e_rPop TkL.e_rAppP TkL.e_rAppU TkL.e_rPopP TkL.e_rPopU TkL.e_rClr TkL.e_mifr TkL.e_metR TkL.e_istr TkL.e_raiseE TkL.e_try1 TkL.e_ce TkL.e_cer TkL.e_cec TkL.e_ceo TkL.e_cev TkL.e_cei TkL.e_tellE TkL.e_defX TkL.e_metX TkL.e_asgT TkL.e_catT TkL.e_appT TkL.e_allJ TkL.allU_nil TkL.allU_cons TkL.e_par_ov TkL.e_tell TkL.e_tellU TkL.e_dropApp TkL.e_par_vN TkL.e_asgLs TkL.e_parLO TkL.e_parMM TkL.e_lcO TkL.e_rev TkL.e_mseq TkL.e_mret TkL.e_mretN TkL.e_met TkL.e_cnt TkL.e_lrng TkL.e_asgM TkL.e_parMV TkL.e_jmk TkL.o_mu TkL.e_idx TkL.e_fB TkL.e_fL TkL.e_fE TkL.e_fO TkL.e_never TkL.e_enum TkL.e_rng3 TkL.e_ext TkL.e_augI TkL.e_bor TkL.e_retO TkL.e_retNO TkL.e_par_ovv TkL.e_mk TkL.e_setI TkL.e_g0 TkL.e_gThen TkL.e_gPl TkL.e_gYield TkL.e_gFor TkL.lcs_nil TkL.lcs_cons TkL.fors_nil TkL.fors_cons List.nil_append List.cons_append Nat.reduceLT"
  let t1 ← `(tactic| simp -implicitDefEqProofs only [$[$x1:ident],*])
  let r2 ← (nms "TkL.muSR_i TkL.muTt_i TkL.muDs_i").mapM fun (x : Lean.Ident) => `(tactic| with_reducible refine $x:ident ?_)
  let t2 ← `(tactic| first $[| $r2:tactic]*)
  `(tactic| repeat (first | ($t1:tactic) | walk_at "ewq" | (with_reducible refine And.intro (TkL.muRt_i trivial) ?_) | (with_reducible refine TkL.muRt_i ?_) | (with_reducible refine And.intro (TkL.muSR_i trivial) ?_) | ($t2:tactic)))
namespace TkL
open PySem PySem.Spec PySem.Calls PyProof.Rows L2 Tk

section
variable {CR : Addr} (po : Option Addr) (s : RcS) (fp : List Addr) (ds : List D) (P : D → RcS → Prop) (PX : Nat → List D → RcS → Prop)
end
end TkL


namespace TkL
open PySem PySem.Spec PySem.Calls PyProof.Rows L2 Tk
end TkL


namespace TkL
open PySem PySem.Spec PySem.Calls PyProof.Rows L2 Tk
section
variable {ops : List HOp} {k : Nat} {sv : List (Str × RcT)} {P : D → RcS → Prop} {PX : Nat → List D → RcS → Prop} {e : Str} {i : Int}
end
section
variable {CR : Addr} (po : Option Addr) (s : RcS) (fp : List Addr) (ds : List D) (P : D → RcS → Prop) (PX : Nat → List D → RcS → Prop)
end
end TkL


namespace TkL
open PySem PySem.Spec PySem.Calls PyProof.Rows L2
section
variable {X : Cx}
abbrev TM := V → TS
structure PM (X : Cx) (cases : List MatchCase) (t : TM) : Prop where
  run : ∀ (first : Bool) (pins : List (Addr × Obj)) (s : Shared) (σ : L2.St) (H : Hp) (v : V) (u : Value) (D : Ends), Inv X pins σ H s → RelV v u → t v D σ H → wpAny (model X.prog X.w) X.A (matchCases cases X.env u first) (SP X pins D) X.xe s
end
end TkL


namespace TkL
open PySem PySem.Spec PySem.Calls PyProof.Rows L2 Tk
abbrev UMt := D → (D → Mu → Prop) → (Env → Prop) → Env → Prop
section
variable {B : Bs} {tm : TM} {um : UMt} {ts ts' : TS} {ub ub' : (D → Mu → Prop) → Env → Prop} {w : Str} {is : List Nat} {j : Nat}
end
end TkL



namespace TkL
open PySem PySem.Spec PySem.Calls PyProof.Rows L2 Tk
section
variable (K : PySem.W.Frag) (C : Addr) (CR : Addr)
end
end TkL


namespace TkL
open PySem PySem.Spec PySem.Calls PyProof.Rows L2 Tk
section
variable {w z : Str} {is : List Nat} {b : (D → Mu → Prop) → Env → Prop} {u : UMt} {r ds : List D} {PM : D → Mu → Prop} {N : Env → Prop} {ρ : Env}
end
section
variable {CR : Addr} (po : Option Addr) (s : RcS) (fp : List Addr) (ds : List D) (P : D → RcS → Prop)
end
end TkL


namespace TkL
open PySem PySem.Spec PySem.Calls PyProof.Rows L2 Tk
def lenOf (z : Str) : Int := if z = "put" ∨ z = "shift" ∨ z = "thin" ∨ z = "join" ∨ z = "meet" ∨ z = "leave" then 3 else if z = "undo" ∨ z = "redo" then 1 else 0
structure LenD (K : PySem.W.Frag) (w : World) (mg : Str → Option Value) : Prop where
  ex : ∃ d es n, mg "LENGTHS" = some (.ref d) ∧ K.lookup d = some ⟨.type "dict", none, .dict es n, #[]⟩ ∧ PySem.W.KeysLit w.params es.toList ∧ (d == sysModules) = false ∧
    ∀ z : Str, (lenOf z = 0 ∧ PySem.W.nsIn K d z = some none) ∨ ∃ t, PySem.W.nsIn K d z = some (some (.int (lenOf z) t))
def LenE (P : Params) (es : List DictEntry) : Prop := ∃ t0 t1 t2 t3 t4 t5 t6 t7 u0 u1 u2 u3 u4 u5 u6 u7,
  es = [⟨PyData.keyHash P "put", .str "put" t0, .int 3 u0⟩, ⟨PyData.keyHash P "shift", .str "shift" t1, .int 3 u1⟩, ⟨PyData.keyHash P "thin", .str "thin" t2, .int 3 u2⟩, ⟨PyData.keyHash P "join", .str "join" t3, .int 3 u3⟩,
    ⟨PyData.keyHash P "meet", .str "meet" t4, .int 3 u4⟩, ⟨PyData.keyHash P "leave", .str "leave" t5, .int 3 u5⟩, ⟨PyData.keyHash P "undo", .str "undo" t6, .int 1 u6⟩, ⟨PyData.keyHash P "redo", .str "redo" t7, .int 1 u7⟩]
theorem LenD.of {K : PySem.W.Frag} {w : World} {mg : Str → Option Value} {d : Addr} {es : Array DictEntry} {n : Nat} (hm : mg "LENGTHS" = some (.ref d)) (hl : K.lookup d = some ⟨.type "dict", none, .dict es n, #[]⟩) (low : (d == sysModules) = false) (he : LenE w.params es.toList) : LenD K w mg := by
  obtain ⟨t0, t1, t2, t3, t4, t5, t6, t7, u0, u1, u2, u3, u4, u5, u6, u7, he⟩ := he
  refine ⟨d, es, n, hm, hl, ?_, low, fun z => ?_⟩
  · rw [he]
    exact ⟨⟨_, _, rfl, rfl⟩, ⟨_, _, rfl, rfl⟩, ⟨_, _, rfl, rfl⟩, ⟨_, _, rfl, rfl⟩, ⟨_, _, rfl, rfl⟩, ⟨_, _, rfl, rfl⟩, ⟨_, _, rfl, rfl⟩, ⟨_, _, rfl, rfl⟩, trivial⟩
  · have key : PySem.W.nsIn K d z = match es.toList.find? (·.key.isStr z) with
      | some e => some (some e.val)
      | none => if es.toList.any (·.refKey) then none else some none := by
      unfold PySem.W.nsIn
      rw [hl]
      rfl
    rw [key, he]
    simp only [List.find?_cons, List.find?_nil, Value.isStr, beq_iff_eq, List.any_cons, List.any_nil]
    by_cases c0 : ("put" : Str) = z
    · subst c0; exact .inr ⟨u0, rfl⟩
    by_cases c1 : ("shift" : Str) = z
    · subst c1; exact .inr ⟨u1, rfl⟩
    by_cases c2 : ("thin" : Str) = z
    · subst c2; exact .inr ⟨u2, rfl⟩
    by_cases c3 : ("join" : Str) = z
    · subst c3; exact .inr ⟨u3, rfl⟩
    by_cases c4 : ("meet" : Str) = z
    · subst c4; exact .inr ⟨u4, rfl⟩
    by_cases c5 : ("leave" : Str) = z
    · subst c5; exact .inr ⟨u5, rfl⟩
    by_cases c6 : ("undo" : Str) = z
    · subst c6; exact .inr ⟨u6, rfl⟩
    by_cases c7 : ("redo" : Str) = z
    · subst c7; exact .inr ⟨u7, rfl⟩
    refine .inl ⟨?_, ?_⟩
    · unfold lenOf
      rw [if_neg, if_neg]
      · rintro (h | h)
        · exact c6 h.symm
        · exact c7 h.symm
      · rintro (h | h | h | h | h | h)
        · exact c0 h.symm
        · exact c1 h.symm
        · exact c2 h.symm
        · exact c3 h.symm
        · exact c4 h.symm
        · exact c5 h.symm
    · rw [beq_false_of_ne c0, beq_false_of_ne c1, beq_false_of_ne c2, beq_false_of_ne c3, beq_false_of_ne c4, beq_false_of_ne c5, beq_false_of_ne c6, beq_false_of_ne c7]
      rfl
end TkL


namespace TkL
open PySem PySem.Spec PySem.Calls PyProof.Rows L2 Tk
def uLenGet (a : UE) : UE := fun ρ P => a ρ fun x ρ1 => ∃ z, x = .str z ∧ P (.int (lenOf z)) ρ1
theorem e_lenGet {a : UE} {ρ : Env} {P : D → Env → Prop} : uLenGet a ρ P = a ρ fun x ρ1 => ∃ z, x = .str z ∧ P (.int (lenOf z)) ρ1 := rfl
def isOpD : D → Bool
  | .tup (.str z :: r) => decide (lenOf z = (r.length + 1 : Nat))
  | _ => false
def CmpT (d : D) : Prop := ∀ l, d = .tup l → l.length ≤ 1000 ∧ ∃ x, pd d = some x ∧ SeqAt.shaped x = true
end TkL



namespace TkL
open PySem PySem.Spec PySem.Calls PyProof.Rows L2 Tk
section
variable (K : PySem.W.Frag) (C : Addr) (CJ : Addr) (CR : Addr) (T0 : Addr)
end
end TkL


namespace TkL
open PySem PySem.Spec PySem.Calls PyProof.Rows L2 Tk
end TkL


namespace TkL
open PySem PySem.Spec PySem.Calls PyProof.Rows L2 Tk
def uRNew {S : Type} (g : List D → (S → Prop) → Prop) (a : UA) : Env → (S → Env → Prop) → Prop := fun ρ P => a ρ fun ds ρ1 => g ds fun s => P s ρ1
theorem e_rNew {S : Type} {g : List D → (S → Prop) → Prop} {a : UA} {ρ : Env} {P : S → Env → Prop} : uRNew g a ρ P = a ρ fun ds ρ1 => g ds fun s => P s ρ1 := rfl
def uNSeq (a : US) (b : (Mu → Prop) → Env → Prop) : (Mu → Prop) → Env → Prop := fun PM ρ => a { nx := b PM, rt := fun _ => False } ρ
def uNRet (j : Nat) : (Mu → Prop) → Env → Prop := fun PM ρ => muAt ρ[j]? PM
theorem e_nseq {a : US} {b : (Mu → Prop) → Env → Prop} {PM : Mu → Prop} {ρ : Env} : uNSeq a b PM ρ = a { nx := b PM, rt := fun _ => False } ρ := rfl
theorem e_nret {j : Nat} {PM : Mu → Prop} {ρ : Env} : uNRet j PM ρ = muAt ρ[j]? PM := rfl
section
variable {K : PySem.W.Frag} {C CR : Addr} {N : List Str} {n : Str} {vs : List V} {H : Hp} {Q : VK} {E : XK} {ts : TS}
end
end TkL


namespace TkL
open PySem PySem.Spec PySem.Calls PyProof.Rows L2 Tk
inductive RunO : List HOp → Nat → List Opn → List HOp → Nat → List D → Prop
  | nil {ops : List HOp} {k : Nat} : RunO ops k [] ops k []
  | cons {ops : List HOp} {k : Nat} {op : Opn} {ops1 : List HOp} {k1 : Nat} {d : D} {l : List Opn} {ops2 : List HOp} {k2 : Nat} {ds : List D} (s : StepO ops k op ops1 k1 d) (r : RunO ops1 k1 l ops2 k2 ds) : RunO ops k (op :: l) ops2 k2 (d :: ds)
def Opn.Wf (op : Opn) : Prop := op.Wd ∧ Dta 1 op.d
theorem RunO.snoc : ∀ {ops : List HOp} {k : Nat} {l : List Opn} {ops1 : List HOp} {k1 : Nat} {ds : List D} {op : Opn} {ops2 : List HOp} {k2 : Nat} {d : D}, RunO ops k l ops1 k1 ds → StepO ops1 k1 op ops2 k2 d → RunO ops k (l ++ [op]) ops2 k2 (ds ++ [d])
  | _, _, _, _, _, _, _, _, _, _, .nil, s => .cons s .nil
  | _, _, _, _, _, _, _, _, _, _, .cons s0 r, s => .cons s0 (r.snoc s)
theorem RunO.len : ∀ {ops : List HOp} {k : Nat} {l : List Opn} {ops1 : List HOp} {k1 : Nat} {ds : List D}, RunO ops k l ops1 k1 ds → ds.length = l.length
  | _, _, _, _, _, _, .nil => rfl
  | _, _, _, _, _, _, .cons _ r => congrArg (· + 1) r.len
theorem StepO.dta {ops : List HOp} {k : Nat} {op : Opn} {ops' : List HOp} {k' : Nat} {d : D} {n : Nat} (s : StepO ops k op ops' k' d) : Dta n d := by
  cases s with
  | undo _ => exact dta_bl
  | redo _ => exact dta_bl
  | chg q _ h => exact dta_str (ok_text h.rb)
theorem RunO.dta {n : Nat} : ∀ {ops : List HOp} {k : Nat} {l : List Opn} {ops1 : List HOp} {k1 : Nat} {ds : List D}, RunO ops k l ops1 k1 ds → ∀ x ∈ ds, Dta n x
  | _, _, _, _, _, _, .nil, x, h => nomatch h
  | _, _, _, _, _, _, .cons s r, x, h => by
    rcases List.mem_cons.mp h with rfl | h
    · exact s.dta
    · exact r.dta x h
theorem inN_ok {n : Str} (h : InN n) : PyData.strOk n = true := by
  rcases h with rfl | rfl | rfl | rfl <;> decide +kernel
theorem Opn.dta {op : Opn} (h : op.Ok) : Dta 1 op.d := by
  have t3 : ∀ {a b c : D}, Dta 0 a → Dta 0 b → Dta 0 c → Dta 1 (.tup [a, b, c]) := fun ha hb hc => Dtl.tup (dtl_of fun d hd => by
    simp only [List.mem_cons, List.not_mem_nil, or_false] at hd
    rcases hd with rfl | rfl | rfl
    · exact ha
    · exact hb
    · exact hc)
  have t1 : ∀ {a : D}, Dta 0 a → Dta 1 (.tup [a]) := fun ha => Dtl.tup (dtl_of fun d hd => by
    rw [List.mem_singleton.mp hd]; exact ha)
  cases op with
  | put n z =>
    refine t3 (dta_str (by decide +kernel)) (dta_str ?_) (dta_str ?_)
    · rcases h.1 with rfl | rfl | rfl | rfl <;> decide +kernel
    · rcases h.2 with (rfl | rfl | rfl) | ⟨r, hr, rfl⟩
      · decide +kernel
      · decide +kernel
      · decide +kernel
      · exact ok_text hr.rb
  | shift n k => exact t3 (dta_str (by decide +kernel)) (dta_str (inN_ok h.1)) dta_int
  | thin n k => exact t3 (dta_str (by decide +kernel)) (dta_str (inN_ok h.1)) dta_int
  | pair w n m =>
    refine t3 (dta_str ?_) (dta_str (inN_ok h.2.1)) (dta_str (inN_ok h.2.2))
    rcases h.1 with rfl | rfl | rfl <;> decide +kernel
  | undo => exact t1 (dta_str (by decide +kernel))
  | redo => exact t1 (dta_str (by decide +kernel))
theorem Opn.Ok.wf {op : Opn} (h : op.Ok) : op.Wf := ⟨h.wd, Opn.dta h⟩
end TkL



namespace TkL
open PySem PySem.Spec PySem.Calls PyProof.Rows L2 Tk
section
variable (K : PySem.W.Frag) (C : Addr) (CR : Addr)
end
end TkL



namespace TkL
open PySem PySem.Spec PySem.Calls PyProof.Rows L2 Tk
section
variable (K : PySem.W.Frag) (C : Addr) (CR : Addr)
end
end TkL


namespace TkL
open PySem PySem.Spec PySem.Calls PyProof.Rows L2 Tk
section
variable {CR : Addr} (po : Option Addr) (s : RcS) (fp : List Addr) (ds : List D) (P : D → RcS → Prop)
end
section
variable {CR : Addr} (ds : List D) (P : RcS → Prop)
end
end TkL


namespace TkL
open PySem PySem.Spec PySem.Calls PyProof.Rows L2 Tk
theorem e_slO0 {l : List D} {Q : List D → Prop} : (match D.lst l with | .lst l => Q l | _ => False) = Q l := rfl
theorem e_uIsi {T : String} {a : UE} {ρ : Env} {Q : D → Env → Prop} : uIsi T a ρ Q = a ρ fun x ρ1 => ∃ b, isiD x T = some b ∧ Q (.bl b) ρ1 := rfl
end TkL


local macro_rules | `(tactic| walk_at "ewK") => do
  let nms (s : String) := (s.splitOn " ").toArray.map fun x => Lean.mkIdent x.toName
  let x1 := nms "TkL.e_slO TkL.e_slO0 TkL.e_rNew TkL.e_nseq TkL.e_nret TkL.e_parMM TkL.e_lenGet TkL.e_uIsi TkL.e_mer TkL.e_med TkL.e_cen TkL.e_rNotIn TkL.e_rItem TkL.e_slV TkL.e_slM TkL.e_slD TkL.e_snil TkL.e_scons TkL.e_setS TkL.setAll_cons TkL.e_dnewK TkL.e_dsetV TkL.e_dinV TkL.e_dixV TkL.e_tell TkL.e_rMk TkL.e_isNonT TkL.e_isNonN List.foldl_cons List.foldl_nil TkL.e_dcopy TkL.e_dsetTx TkL.e_dfrz TkL.e_nn2 TkL.e_nn3 TkL.e_dget TkL.e_din TkL.e_idxS Option.map_none Option.map_some Option.isSome_none Option.isSome_some TkL.sd_put_undo TkL.sd_put_redo TkL.sd_shift_undo TkL.sd_shift_redo TkL.sd_thin_undo TkL.sd_thin_redo TkL.sd_join_undo TkL.sd_join_redo TkL.sd_meet_undo TkL.sd_meet_redo TkL.sd_leave_undo TkL.sd_leave_redo Bool.not_not TkL.e_retT TkL.e_qseq TkL.e_qret TkL.e_asgQ TkL.e_asgUT TkL.e_parVM TkL.o_muR TkL.e_rMk TkL.e_rNotIn TkL.e_rItem TkL.e_rGet TkL.e_rEqP TkL.e_rEqU TkL.e_rPut TkL.e_rPop TkL.e_rAppP TkL.e_rAppU TkL.e_rPopP TkL.e_rPopU TkL.e_rClr TkL.e_mifr TkL.e_metR TkL.e_istr TkL.e_raiseE TkL.e_try1 TkL.e_ce TkL.e_cer TkL.e_cec TkL.e_ceo TkL.e_cev TkL.e_cei TkL.e_tellE TkL.e_defX TkL.e_metX TkL.e_asgT TkL.e_catT TkL.e_appT TkL.e_allJ TkL.allU_nil TkL.allU_cons TkL.e_par_ov TkL.e_tell TkL.e_tellU TkL.e_dropApp TkL.e_par_vN TkL.e_asgLs TkL.e_parLO TkL.e_parMM TkL.e_lcO TkL.e_rev TkL.e_mseq TkL.e_mret TkL.e_mretN TkL.e_met TkL.e_cnt TkL.e_lrng TkL.e_asgM TkL.e_parMV TkL.e_jmk TkL.o_mu TkL.e_idx TkL.e_fB TkL.e_fL TkL.e_fE TkL.e_fO TkL.e_never TkL.e_enum TkL.e_rng3 TkL.e_ext TkL.e_augI TkL.e_bor TkL.e_retO TkL.e_retNO TkL.e_par_ovv TkL.e_mk TkL.e_setI TkL.e_g0 TkL.e_gThen TkL.e_gPl TkL.e_gYield TkL.e_gFor TkL.lcs_nil TkL.lcs_cons TkL.fors_nil TkL.fors_cons List.nil_append List.cons_append Nat.reduceLT"
  let t1 ← `(tactic| simp -implicitDefEqProofs only [$[$x1:ident],*])
  let r2 ← (nms "TkL.muSR_i TkL.muTt_i TkL.muDs_i").mapM fun (x : Lean.Ident) => `(tactic| with_reducible refine $x:ident ?_)
  let t2 ← `(tactic| first $[| $r2:tactic]*)
  `(tactic| repeat (first | ($t1:tactic) | walk_at "ewq" | (with_reducible refine And.intro (TkL.muRt_i trivial) ?_) | (with_reducible refine TkL.muRt_i ?_) | (with_reducible refine And.intro (TkL.muSR_i trivial) ?_) | ($t2:tactic)))
namespace TkL
open PySem PySem.Spec PySem.Calls PyProof.Rows L2 Tk
end TkL


namespace TkL
open PySem PySem.Spec PySem.Calls PyProof.Rows L2 Tk LamX
def spErrX (K : PySem.W.Frag) (CT : Addr) (cs : Nat → Addr) (TC : TcT) : Sp := fun vs H Q _ => ∃ f c' q tl, vs = [.ref f] ∧ TC f tl ∧ H c' = some (CodeO c' q) ∧ TErrX K CT cs tl H Q
section
variable {P : Program} {w : World} {K : PySem.W.Frag} {mg : Str → Option Value} {base : Heap} {CT : Addr} {cs : Nat → Addr} {k : Nat}
theorem okErrX {ev : Str} {g : Addr} {pg : Arguments} {bg : List Stmt} {sg : Scope} {dV kV doc pm cdv ct oc : Value} {an od : Option Addr} {osl : Array (Option Value)} (lk : K.lookup g = some ⟨oc, od, .func (PySem.W.fnOf "_law_error_of" "_law_error_of" pg bg sg dV kV doc pm an cdv ct), osl⟩) (hcg : PySem.W.codeIn K cdv "_law_error_of" = true) (Sg : FnScope (errNx ev) ["_law_call"] sg) (hva : Vis sg "_law_call")
    (hG : ∀ (A : Around) (outer : List PySem.Env) (s : Shared) (H : Hp) (env : PySem.Env) q, GivesTo (dumX P w K mg base A outer s H env) (errNx ev) "_law_error_of" sg g cdv bg "_law_call" q (TErrX K CT cs)) :
    FnOk P w K mg base C8.CX0 (k + 1) g (PySem.W.fnOf "_law_error_of" "_law_error_of" pg bg sg dV kV doc pm an cdv ct) ["_law_call"] (spErrX K CT cs (Thk P w K mg base k)) := by
  refine fn_of lk hcg Sg (fun vs H Q E h => ?_) fun A outer s H vs Q E hr h => ?_
  · obtain ⟨f, c', q, tl, rfl, _⟩ := h; rfl
  · obtain ⟨f, c', q, tl, rfl, T, hc, ht⟩ := h
    have act := fun (W : WX) (pn : List (Addr × Obj)) (xe : Value → Shared → Prop) (E' : XK) (p1 p2 : Pos) (tk : Takes ((cxOf C8.CX0 P w K mg base (errNx ev) "_law_error_of" sg g cdv A outer s H C8.E0).tr pn xe) W) (hW : ∀ cls d σ' H', E' cls d H' → W cls d σ' H') =>
      pe_actV (Z := (cxOf C8.CX0 P w K mg base (errNx ev) "_law_error_of" sg g cdv A outer s H C8.E0).tr pn xe) (i := 0) (p1 := p1) (p2 := p2) T hr tk hW rfl hva
    obtain ⟨t, h1, h2⟩ := hG A outer s H (envOfC "_law_error_of" sg s.heap.objs.size g cdv) q f c' s H Q tl (fun W pn xe E' p1 p2 tk hW => ⟨fun pins s' σ' H' Q' I h => (act W pn xe E' p1 p2 tk hW).run pins s' σ' H' Q' I ⟨h.1, h.2.2⟩⟩) hc ht
    exact ⟨t, h1.nox, h2⟩
end
def AllTX (K : PySem.W.Frag) (CT : Addr) (cs : Nat → Addr) (TC : TcT) (D p : Addr) (all : List V) (x : V) (Q : VK) : List Addr → Hp → Prop
  | [], H => ∀ H', Ex H H' → Q (.bl true) H'
  | f :: fs, H => ∀ H', Ex H H' → ∃ c' q tl, TC f tl ∧ H' c' = some (CodeO c' q) ∧ ∀ Q2 : VK, (∀ v H'', H'' D = some (.lst []) → H'' p = some (.lst all) → (∀ Q3 : VK, Q3 (.bl false) H'' → rNeD K v x H'' Q3) → AllTX K CT cs TC D p all x Q fs H'' → Q2 v H'') → TErrX K CT cs tl H' Q2
def spAllX (K : PySem.W.Frag) (CT : Addr) (cs : Nat → Addr) (TC : TcT) : Sp := fun vs H Q _ => ∃ p x fs, vs = [.ref p, x] ∧ H p = some (.lst (fs.map V.ref)) ∧ ∀ D, H D = none → AllTX K CT cs TC D p (fs.map V.ref) x Q fs (upd H D (.lst []))
theorem rdAllrX {K : PySem.W.Frag} {CT : Addr} {cs : Nat → Addr} {TC : TcT} {vs : List V} {H : Hp} {Q : VK} {E : XK} (h : spAllX K CT cs TC vs H Q E) : tAllr K (spErrX K CT cs TC) { nx := fun _ H' => Q .non H', rt := Q } (L2.start ["_law_calls", "_law_expected", "_law_call"] vs) H := by
  obtain ⟨p, x, fs, rfl, hp, h⟩ := h
  show tAllr K (spErrX K CT cs TC) _ [some (.ref p), some x, none] H
  unfold tAllr
  refine ⟨.ref p, rfl, p, rfl, ⟨_, lOf hp⟩, fun D hD => ⟨fun i m H' => m = fs.length - i ∧ i ≤ fs.length ∧ H' p = some (.lst (fs.map V.ref)) ∧ H' D = some (.lst []) ∧ AllTX K CT cs TC D p (fs.map V.ref) x Q (fs.drop i) H', ⟨_, rfl, Nat.zero_le _, ?_, upd_same, ?_⟩, ?_⟩⟩
  · rw [upd_ne fun z => by rw [z, hD] at hp; cases hp]; exact hp
  · exact h D hD
  rintro i m H1 ⟨rfl, hi, h1, h2, h3⟩
  by_cases hlt : i < fs.length
  · refine .inr ⟨?_, fun H' => H' p = some (.lst (fs.map V.ref)) ∧ H' D = some (.lst []) ∧ AllTX K CT cs TC D p (fs.map V.ref) x Q (fs.drop (i + 1)) H', fun H' hh => ⟨_, by omega, rfl, hlt, hh⟩, fun v H' y => ?_⟩
    · exact ⟨_, .ref fs[i], lOf h1, by rw [List.getElem?_map, List.getElem?_eq_getElem hlt]; rfl⟩
    · obtain ⟨rfl, hy⟩ := y
      have hv := hy _ (lOf h1)
      rw [List.getElem?_map, List.getElem?_eq_getElem hlt] at hv
      have hv' : v = .ref fs[i] := (Option.some.inj hv).symm
      subst hv'
      rw [List.drop_eq_getElem_cons hlt] at h3
      refine ⟨rfl, ?_⟩
      obtain ⟨c', q, tl, T, hc, ht⟩ := h3 H' (Ex.refl _)
      refine ⟨.ref fs[i], rfl, fs[i], c', q, tl, rfl, T, hc, ht _ fun v H'' hn hp' hne hA => ?_⟩
      refine ⟨x, rfl, hne _ ⟨false, rfl, ?_⟩⟩
      refine Eq.mpr (if_neg (by simp)) ?_
      exact ⟨hp', hn, hA⟩
  · have e : i = fs.length := by omega
    subst e
    refine .inl ⟨⟨_, lOf h1, by rw [List.length_map]; exact Nat.le_refl _⟩, ?_⟩
    rw [List.drop_length] at h3
    refine ⟨Nat.zero_le _, fun q hq => ?_⟩
    have nq : D ≠ q := fun z => by rw [z, hq] at h2; cases h2
    refine ⟨.list [], .list [], .lst (lOf (by rw [upd_ne nq]; exact h2)) .nil, .lst (lOf upd_same) .nil, by decide +kernel, by decide +kernel, ?_⟩
    have ee : PyData.eqv (.list []) (.list []) = true := by decide +kernel
    rw [ee]
    exact h3 _ (Ex.new hq)

def AllPX (K : PySem.W.Frag) (CT : Addr) (cs : Nat → Addr) (RDY : Nat → Hp → Addr → Prop) (RT : Nat → XK → TE) (σ : L2.St) (D p : Addr) (all : List V) (x : V) (Q : VK) : List (Nat × Addr) → Hp → Prop
  | [], H => ∀ H', Ex H H' → Q (.bl true) H'
  | jf :: l, H => ∀ H', Ex H H' → ∀ (E2 : XK) (N2 : VK), (∀ i es d H'', ErrX K cs i → PySem.W.exmOne K (.ref (cs i)) (.ref CT) = some true → ExnV H'' i es d → H'' D = some (.lst []) → H'' p = some (.lst all) → (∀ H3 q, Ex H'' H3 → Told H3 q i es → ∀ Q3 : VK, Q3 (.bl false) H3 → rNeD K (.ref q) x H3 Q3) → (∀ z ∈ l, RDY z.1 H'' z.2) →
      AllPX K CT cs RDY RT σ D p all x Q l H'' → E2 (.ref (cs i)) d H'') → RT jf.1 E2 σ H' N2
def tAllCX (K : PySem.W.Frag) (CT : Addr) (cs : Nat → Addr) (RDY : Nat → Hp → Addr → Prop) (RT : Nat → XK → TE) (ta : TA) : TE := fun σ H Q => ta σ H fun vs H1 => ∃ p x l, vs = [.ref p, x] ∧ H1 p = some (.lst (l.map fun z : Nat × Addr => V.ref z.2)) ∧ (∀ z ∈ l, RDY z.1 H1 z.2) ∧
  ∀ D, H1 D = none → AllPX K CT cs RDY RT σ D p (l.map fun z : Nat × Addr => V.ref z.2) x Q l (upd H1 D (.lst []))
section
variable {X : Cx} {pins : List (Addr × Obj)} {σ : L2.St} {H : Hp} {s : Shared} {CT : Addr} {cs : Nat → Addr}
theorem allTX_of {Ls : Nat → Lm} {RT : Nat → XK → TE} {n kt : Nat} {ce : List (Addr × Obj)} {D p : Addr} {x : V} {all : List V} {Q : VK} (ok : X.Ok) (hl : σ.length = X.N.length) (V : CelV X ce σ)
    (hL : ∀ j, j < n → LmS X.N X.env.scope (Ls j).scope) (hB : ∀ j, j < n → LmB (Ls j) (X.env.qual ++ "<lambda>"))
    (hbody : ∀ j, j < n → ∀ (A : Around) (outer : List PySem.Env) (s : Shared) (H : Hp) (E : XK) (f c' : Addr), Room kt (A.deeper (lamEnv X (Ls j).scope s.heap.objs.size f c')) → PE (lamCx X A outer s H E (Ls j).scope f c') (Ls j).body (RT j E)) :
    ∀ (l : List (Nat × Addr)) (HZ : Hp), Clls ce HZ → (∀ z ∈ l, z.1 < n ∧ Rdy (X.env.qual ++ "<lambda>") (Ls z.1) (cloFrom X.env.cells (Ls z.1).scope.names []) HZ z.2) →
      AllPX X.K CT cs (fun j H f => j < n ∧ Rdy (X.env.qual ++ "<lambda>") (Ls j) (cloFrom X.env.cells (Ls j).scope.names []) H f) RT σ D p all x Q l (unfz ce HZ) →
      AllTX X.K CT cs (Thk X.prog X.w X.K X.mg X.base (kt + 1)) D p all x (fun v H' => Q v (unfz ce H')) (l.map (·.2)) HZ
  | [], HZ, _, _, h => fun H' e => h _ (unfz_ex e)
  | jf :: l, HZ, hc, hr, h => fun H' e => by
    obtain ⟨hj, R⟩ := hr jf List.mem_cons_self
    have R' := R.ext (ExtN.of e)
    have hc' := hc.ex e
    obtain ⟨dV, c', r1, r2, r3⟩ := id R'
    refine ⟨c', _, tlLm X.K (X.env.qual ++ "<lambda>") (Ls jf.1) (cloFrom X.env.cells (Ls jf.1).scope.names []) ce σ (RT jf.1) jf.2, ⟨lm_run ok hl (hL _ hj) V (hB _ hj) (hbody _ hj), fun E H Q q => ?_⟩, r2, fun Q2 k => ⟨R', hc', h _ (unfz_ex e) _ _ fun i es d H'' nE xE hv hn hp hne hrd hA => ?_⟩⟩
    · obtain ⟨dV, c', q1, _⟩ := q.1
      exact ⟨_, _, _, _, _, q1⟩
    · intro un
      have u1 : Ex H'' (froz ce H'') := fun y o q => by
        cases z : ce.lookup y with
        | none => rw [froz_out z]; exact q
        | some o' => rw [un y o' z] at q; cases q
      refine ⟨i, es, rfl, hv.ex u1, nE, xE, fun H3 pt e3 hpt => ?_⟩
      have up : ∀ {y : Addr} {o : HO}, H'' y = some o → H3 y = some o := fun {y o} q => e3 y o (u1 y o q)
      have c3 : Clls ce H3 := (froz_cl (cs := ce) (G := H'')).ex e3
      have x3 : Ex H'' (unfz ce H3) := fun y o q => by
        cases z : ce.lookup y with
        | none => rw [unfz_out z]; exact up q
        | some o' => rw [un y o' z] at q; cases q
      refine k _ H3 (up hn) (up hp) (fun Q3 h3 => hne H3 pt (fun y o q => up q) hpt Q3 h3) ?_
      · refine allTX_of ok hl V hL hB hbody l H3 c3 (fun z hz => ⟨(hrd z hz).1, (hrd z hz).2.ext fun b o q _ => up q⟩) ?_
        cases l with
        | nil => exact fun H4 e4 => hA _ (x3.trans e4)
        | cons a l => exact fun H4 e4 => hA _ (x3.trans e4)
theorem pe_allrX {Ls : Nat → Lm} {RT : Nat → XK → TE} {n kt kA : Nat} {g : Addr} {fd : FuncData} {ta : TA} {e : Expr} {es : List Expr} {p pos : Pos} (hfn : ∀ x, X.fn x = true) (F : FnOk X.prog X.w X.K X.mg X.base C8.CX0 kA g fd ["_law_calls", "_law_expected"] (spAllX X.K CT cs (Thk X.prog X.w X.K X.mg X.base (kt + 1)))) (hr : Room kA X.A)
    (hg : Gl X "_law_all_raise") (hm : X.mg "_law_all_raise" = some (.ref g)) (hk : PySem.W.keepIn X.K (.ref g) = true) (hb : Binds X.K fd ["_law_calls", "_law_expected"] [])
    (hL : ∀ j, j < n → LmS X.N X.env.scope (Ls j).scope) (hB : ∀ j, j < n → LmB (Ls j) (X.env.qual ++ "<lambda>"))
    (hbody : ∀ j, j < n → ∀ (A : Around) (outer : List PySem.Env) (s : Shared) (H : Hp) (E : XK) (f c' : Addr), Room kt (A.deeper (lamEnv X (Ls j).scope s.heap.objs.size f c')) → PE (lamCx X A outer s H E (Ls j).scope f c') (Ls j).body (RT j E))
    (hvis : ∀ x c, X.env.cells.lookup x = some c → X.env.scope.names.lookup x = some .cell)
    (ha : PA X (e :: es) ta) (he : starEach (e :: es) X.env = (false, eval e X.env) :: starEach es X.env := by rfl) (hpl : (backTo pos (starEach es X.env)).any (·.1) = false := by rfl) :
    PE X (.Call (.Name "_law_all_raise" p) (e :: es) [] pos) (tAllCX X.K CT cs (fun j H f => j < n ∧ Rdy (X.env.qual ++ "<lambda>") (Ls j) (cloFrom X.env.cells (Ls j).scope.names []) H f) RT ta) := by
  refine ⟨fun pins s σ H Q I h => ?_⟩
  refine wpAny_Call_Name_kw (ld_glob I hg hm ?_ (by decide))
  refine PySem.W.callWith_K (h₀ := X.base) I.ok.mod.kin hk (thn (ha.run pos pins s σ H _ I h) fun us s1 ⟨vs, H1, I1, r, q⟩ => ⟨I1.kIn, ?_⟩) he hpl
  obtain ⟨pl, x, l, rfl, hp, hrd, hA⟩ := q
  obtain ⟨ce, hce⟩ : ∃ ce, ce = celL X s1.heap := ⟨_, rfl⟩
  have iC : ∀ b o, ce.lookup b = some o → s1.heap.get? b = some o ∧ ∃ y, X.env.cells.lookup y = some b := fun b o e => by
    rw [hce] at e; exact celL_get e
  have u0 : Unc ce H1 := fun b o e => by
    obtain ⟨_, y, hy⟩ := iC b o e
    exact I1.freeC y b hy
  have young : ∀ b o, ce.lookup b = some o → X.s_0.heap.get? b = none := fun b o e => by
    obtain ⟨_, y, hy⟩ := iC b o e
    exact Heap.get?_none_of_le (I1.ok.cab y b (hfn y) hy)
  have up : ∀ {b : Addr} {v : HO}, H1 b = some v → froz ce H1 b = some v := fun {b v} q => by
    cases z : ce.lookup b with
    | none => rw [froz_out z]; exact q
    | some o => rw [u0 b o z] at q; cases q
  have VV : CelV X ce σ := by
    refine ⟨fun y c e => ?_, fun i x v c e1 e2 e3 => ?_⟩
    · obtain ⟨v, o, ho, hd⟩ := I1.cell y c e
      exact ⟨o, v, by rw [hce]; exact celL_has e ho, hd⟩
    · obtain ⟨m, _, hl⟩ := I1.loc
      obtain ⟨u, r, lk⟩ := hl i x v e1 e2 (.inr (.inl (hvis x c e3)))
      rcases lk with ⟨k, _⟩ | ⟨_, c', e4, o, ho, hd⟩
      · have k' : X.env.scope.names.lookup x = some .local := k
        rw [hvis x c e3] at k'; cases k'
      · rw [e3] at e4
        cases e4
        exact ⟨o, u, by rw [hce]; exact celL_has e3 ho, hd, r⟩
  have nst : ∀ b ∈ frs X.stack, ce.lookup b = none := fun b hb => by
    cases z : ce.lookup b with
    | none => rfl
    | some o =>
      obtain ⟨_, y, hy⟩ := iC b o z
      rcases List.mem_cons.mp (I1.stkSub b hb) with q | q
      · exact absurd q (I1.cne y b hy)
      · obtain ⟨_, o', ho, _⟩ := I1.ok.funs.mem q
        rw [young b o z] at ho; cases ho
  have E1 := I1.env0
  have E2 : Env0 X.prog X.w X.K X.mg X.base X.A X.stack s1 (froz ce H1) := by
    refine ⟨E1.frames, E1.mod, fun b o q => ⟨(E1.bs b o q).1, ?_⟩, E1.bsz, E1.funs, fun b hb => ?_, hok_froz E1.hok fun b o e => ⟨u0 b o e, (iC b o e).1⟩, E1.bare⟩
    · have n : ce.lookup b = none := by
        cases z : ce.lookup b with
        | none => rfl
        | some o' => have := young b o' z; rw [(I1.ok.bs b o q).1] at this; cases this
      rw [froz_out n]; exact (E1.bs b o q).2
    · rw [froz_out (nst b hb)]; exact E1.frf b hb
  have hsp : spAllX X.K CT cs (Thk X.prog X.w X.K X.mg X.base (kt + 1)) [.ref pl, x] (froz ce H1) (fun v H' => Q v (unfz ce H')) C8.E0 := by
    have em : (l.map (·.2)).map V.ref = l.map fun z : Nat × Addr => V.ref z.2 := by rw [List.map_map]; rfl
    refine ⟨pl, x, l.map (·.2), rfl, by rw [em]; exact up hp, ?_⟩
    rw [em]
    refine fun D hD => ?_
    have nD : ce.lookup D = none := froz_cl.nn hD
    have hD1 : H1 D = none := by rw [froz_out nD] at hD; exact hD
    have eU : unfz ce (upd (froz ce H1) D (.lst [])) = upd H1 D (.lst []) := by
      funext b
      by_cases c : b = D
      · subst c; rw [unfz_out nD, upd_same, upd_same]
      · cases z : ce.lookup b with
        | none => rw [unfz_out z, upd_ne c, froz_out z, upd_ne c]
        | some o => rw [unfz_in z, upd_ne c, u0 b o z]
    exact allTX_of I1.ok I1.len VV hL hB hbody l _ (froz_cl.ex (Ex.new hD)) (fun z hz => ⟨(hrd z hz).1, (hrd z hz).2.ext fun b o q _ => (Ex.new hD) b o (up q)⟩) (by rw [eU]; exact hA D hD1)
  have hl : (us ++ []).length = ["_law_calls", "_law_expected"].length := by rw [List.append_nil, ← r.length]; rfl
  have hb' := hb s1 us I1.kIn hl
  rw [List.append_nil] at hb'
  refine wpAny_call (codeAny_mono (F.run X.A X.stack s1 _ ⟨us, []⟩ us _ _ C8.E0 hr E2 hb' r hsp) fun r s' hq => ?_)
  cases r with
  | error e => exact (show False from hq).elim
  | ok fl =>
    cases fl with
    | ret u =>
      obtain ⟨v, H', os, bare, un, hok, r, q⟩ := hq
      obtain ⟨un', cl⟩ := un_unfz u0 (fun b o e => (iC b o e).1) nst hok un
      exact I1.after ⟨v, unfz ce H', os, bare, un', cl.hok hok, r, q⟩
    | next => exact False.elim hq
    | brk => exact False.elim hq
    | cont => exact False.elim hq
end
def AllUX (UT : Nat → UCE) (RDY : Nat → Hp → Addr → Prop) (i : Nat) (L : List (Nat × Addr)) (JS : List Nat) (e : D) (P : Env → Prop) : List Nat → Env → Prop
  | [], ρ => P ρ
  | j :: js, ρ => UT j ρ (fun _ _ => False) fun jn es ρ' => jn ∈ JS ∧ qNeD (tellD jn es) e (fun b => b = .bl false) ∧ (∃ fp, ρ'[i]? = some (.mu (muT RDY L) fp)) ∧ AllUX UT RDY i L JS e P js ρ'
def uAllJX (js JS : List Nat) (RDY : Nat → Hp → Addr → Prop) (UT : Nat → UCE) (i : Nat) (ue : UE) : UE := fun ρ P => muTt RDY ρ[i]? (fun _ _ => True) ∧ ue ρ fun e ρ1 => muTt RDY ρ1[i]? fun l _ => (∀ j ∈ l.map (·.1), j ∈ js) ∧ AllUX UT RDY i l JS e (fun ρ' => P (.bl true) ρ') (l.map (·.1)) ρ1
section
variable {B : Bs} {CT : Addr} {cs : Nat → Addr} {RDY : Nat → Hp → Addr → Prop} {RT : Nat → XK → TE} {UT : Nat → UCE} {i : Nat}
theorem allU_PX {σ : L2.St} {D p : Addr} {x : V} {e : TkL.D} {L : List (Nat × Addr)} {JS : List Nat} {Q : VK} {P : Env → Prop} {F0 : Hp} (hi : i < σ.length) (S : ∀ j ∈ L.map (·.1), SimRE B cs (RT j) (UT j)) (n : ∀ j ∈ JS, ErrX B.K cs j ∧ PySem.W.exmOne B.K (.ref (cs j)) (.ref CT) = some true) (hp : σ[i]? = some (some (.ref p))) (ht : Rep B.K B.C B.dO F0 x e) :
    ∀ (l : List (Nat × Addr)) (H F : Hp) (ρ : Env), (∀ z ∈ l, z ∈ L) → Ex F0 F → RelF B H F σ ρ → (∃ fp, ρ[i]? = some (.mu (muT RDY L) fp)) → H D = some (.lst []) → F D = none → B.H0 D = none → Fre σ ρ D → AllUX UT RDY i L JS e P (l.map (·.1)) ρ →
      (∀ H' F' ρ', Ex F F' → Kx B σ H F ρ H' F' ρ' → RelF B H' F' σ ρ' → P ρ' → Q (.bl true) H') →
      AllPX B.K CT cs RDY RT σ D p (L.map fun z : Nat × Addr => V.ref z.2) x Q l H
  | [], H, F, ρ, _, eF, R, _, hD, hF, h0, fr, hu, k => fun H' e' => by
    have s := St1.growE R.toRelH e'
    exact k H' _ ρ s.ex ((s.kq R).x (s.relH R.toRelH)) (s.rel _ _ R) hu
  | jf :: l, H, F, ρ, hl, eF, R, ⟨fp, hm⟩, hD, hF, h0, fr, hu, k => fun H' e' E2 N2 kE => by
    have s := St1.growE R.toRelH e'
    have R1 := s.rel _ _ R
    have k1 := (s.kq R).x (s.relH R.toRelH)
    have hD1 : H' D = some (.lst []) := e' _ _ hD
    have hF1 : growF F H H' D = none := s.fz R.toRelH D (by rw [hD]; exact Option.some_ne_none _) hF
    refine S jf.1 (List.mem_map_of_mem (hl jf List.mem_cons_self)) H' _ σ ρ E2 N2 _ _ R1 hu (fun _ _ _ _ _ _ _ _ _ z => z.elim) fun H2 F2 jn es c d ρ2 e2 k2 R2 xx p2 => ?_
    obtain ⟨hjn, hq, ⟨fp2, hm2⟩, hu2⟩ := p2
    obtain ⟨rfl, vs, xv, r⟩ := xx
    have nmu : Nmu ρ D := fun i' M fp' e' => fr.2 i' M fp' e'
    have sty : Sty H' D := ⟨_, hD1, fun _ z => nomatch z⟩
    have nd : some D ≠ B.dO := R1.toRelH.d0 h0
    have hD2 : H2 D = some (.lst []) := k2.kp D _ nmu nd (fun _ z => nomatch z) hD1
    have hF2 : F2 D = none := k2.pr D sty hF1 (fun i' l' e' => fr.1 i' l' e') nmu
    have fr2 : Fre σ ρ2 D := ⟨fun i' l' e' => by
      obtain ⟨m, e3⟩ := k2.ow i' l' e'
      exact fr.1 i' m e3, fun i' M fp' e' => k2.mw D sty nmu i' M fp' e'⟩
    obtain ⟨p2', a2, ⟨St, g1, g2, _⟩, _⟩ := R2.mu i _ _ hm2
    rw [hp] at a2; cases a2
    have ex2 : Ex F0 F2 := eF.trans (s.ex.trans e2)
    have tt := ht.ex ex2
    refine kE jn vs d H2 (n jn hjn).1 (n jn hjn).2 (xv.ex R2.fh) hD2 g1 (fun H3 q e3 tl Q3 hQ3 => ?_) (fun z hz => ?_) ?_
    · have s3 := St1.growE R2.toRelH e3
      have dd : ∀ d, B.dO = some d → DAt d H3 := fun d h => ((s3.relH R2.toRelH).dd d h).1
      have rt := told_rep (s3.relH R2.toRelH) (r.ex s3.ex) tl fun q ws hq => growF_get R2.toRelH e3.kpo dd hq nmut_tup
      have R3 := s3.relH R2.toRelH
      obtain ⟨a, b, pa, pb, sa, sb, hb⟩ := hq
      have hb' : (!PyData.eqv a b) = false := by injection hb
      refine ⟨a, b, rt.dp R3.fh pa, (tt.ex s3.ex).dp R3.fh pb, sa, sb, ?_⟩
      rw [hb']; exact hQ3
    · exact St _ _ _ _ (fun x o q _ => R2.fh x o q) (g2 z (hl z (List.mem_cons_of_mem _ hz)))
    · exact allU_PX hi S n hp ht l H2 F2 ρ2 (fun z hz => hl z (List.mem_cons_of_mem _ hz)) ex2 R2 ⟨fp2, hm2⟩ hD2 hF2 h0 fr2 hu2 fun H3 F3 ρ3 e3 k3 R3 p3 => k H3 F3 ρ3 (s.ex.trans (e2.trans e3)) (k1.trans (k2.trans k3)) R3 p3
theorem sX_allrX {te : TE} {ue : UE} {js JS : List Nat} (hx : SimE B te ue) (S : ∀ j ∈ js, SimRE B cs (RT j) (UT j)) (n : ∀ j ∈ JS, ErrX B.K cs j ∧ PySem.W.exmOne B.K (.ref (cs j)) (.ref CT) = some true) :
    SimX B (tAllCX B.K CT cs RDY RT (tCons (tVar i) (tCons te tNil))) (uAllJX js JS RDY UT i ue) := fun H F σ ρ Q P R hu k => by
  obtain ⟨⟨l0, fp0, e0, _⟩, hu⟩ := hu
  obtain ⟨p, a0, _⟩ := R.mu i _ _ e0
  refine ⟨.ref p, a0, hx H F σ ρ _ _ R hu fun H1 F1 v d ρ1 e1 k1 R1 r1 p1 => ?_⟩
  obtain ⟨l, fp, e2, hjs, p1⟩ := p1
  obtain ⟨p', a1, ⟨St, h1, h2, _⟩, _⟩ := R1.mu i _ _ e2
  rw [a0] at a1; cases a1
  refine ⟨p, v, l, rfl, h1, fun z hz => St _ _ _ _ (fun x o q _ => R1.fh x o q) (h2 z hz), fun D hD => ?_⟩
  obtain ⟨s2, hF2⟩ := new_own (vs := []) R1.toRelH hD
  have R2 := s2.rel _ _ R1
  have k2 := (s2.kq R1).x (s2.relH R1.toRelH)
  have hi : i < σ.length := (List.getElem?_eq_some_iff.mp a0).1
  exact allU_PX hi (fun j hj => S j (hjs j hj)) n a0 r1 l _ _ ρ1 (fun z hz => hz) (Ex.refl _) R2 ⟨fp, e2⟩ upd_same hF2 (R1.toRelH.n0 hD) (R1.fresh R1 hD fun _ _ h => h) p1 fun H3 F3 ρ3 e3 k3 R3 p3 => k H3 F3 _ _ ρ3 (e1.trans e3) ((k1.x R1.toRelH).trans (k2.trans k3)) R3 .bl p3
end
theorem e_allJX {RDY : Nat → Hp → Addr → Prop} {UT : Nat → UCE} {i : Nat} {js JS : List Nat} {ue : UE} {ρ : Env} {P : D → Env → Prop} : uAllJX js JS RDY UT i ue ρ P = (muTt RDY ρ[i]? (fun _ _ => True) ∧ ue ρ fun e ρ1 => muTt RDY ρ1[i]? fun l _ => (∀ j ∈ l.map (·.1), j ∈ js) ∧ AllUX UT RDY i l JS e (fun ρ' => P (.bl true) ρ') (l.map (·.1)) ρ1) := rfl
theorem allUX_nil {UT : Nat → UCE} {RDY : Nat → Hp → Addr → Prop} {i : Nat} {L : List (Nat × Addr)} {JS : List Nat} {e : D} {P : Env → Prop} {ρ : Env} : AllUX UT RDY i L JS e P [] ρ = P ρ := rfl
theorem allUX_cons {UT : Nat → UCE} {RDY : Nat → Hp → Addr → Prop} {i j : Nat} {L : List (Nat × Addr)} {JS js : List Nat} {e : D} {P : Env → Prop} {ρ : Env} : AllUX UT RDY i L JS e P (j :: js) ρ = UT j ρ (fun _ _ => False) fun jn es ρ' => jn ∈ JS ∧ qNeD (tellD jn es) e (fun b => b = .bl false) ∧ (∃ fp, ρ'[i]? = some (.mu (muT RDY L) fp)) ∧ AllUX UT RDY i L JS e P js ρ' := rfl
theorem sJX_nil {B : Bs} {cs : Nat → Addr} {RT : Nat → XK → TE} {UT : Nat → UCE} : ∀ j ∈ ([] : List Nat), SimRE B cs (RT j) (UT j) := fun _ z => nomatch z
theorem sJX_cons {B : Bs} {cs : Nat → Addr} {RT : Nat → XK → TE} {UT : Nat → UCE} {j0 : Nat} {js : List Nat} (h : SimRE B cs (RT j0) (UT j0)) (hs : ∀ j ∈ js, SimRE B cs (RT j) (UT j)) : ∀ j ∈ j0 :: js, SimRE B cs (RT j) (UT j) := fun j hj => by
  rcases List.mem_cons.mp hj with rfl | hj
  · exact h
  · exact hs j hj
end TkL


namespace TkL
open PySem PySem.Spec PySem.Calls PyProof.Rows L2 Tk LamX
theorem pe_allrNX {X : Cx} {CT : Addr} {cs : Nat → Addr} {Ls : Nat → Lm} {RT : Nat → XK → TE} {n kt kA : Nat} {ta : TA} {e : Expr} {es : List Expr} {p pos : Pos} (hfn : ∀ x, X.fn x = true) (F : DefN X.prog X.w X.K X.mg X.base C8.CX0 kA "_law_all_raise" ["_law_calls", "_law_expected"] (spAllX X.K CT cs (Thk X.prog X.w X.K X.mg X.base (kt + 1)))) (hr : Room kA X.A)
    (hL : ∀ j, j < n → LmS X.N X.env.scope (Ls j).scope) (hB : ∀ j, j < n → LmB (Ls j) (X.env.qual ++ "<lambda>"))
    (hbody : ∀ j, j < n → ∀ (A : Around) (outer : List PySem.Env) (s : Shared) (H : Hp) (E : XK) (f c' : Addr), Room kt (A.deeper (lamEnv X (Ls j).scope s.heap.objs.size f c')) → PE (lamCx X A outer s H E (Ls j).scope f c') (Ls j).body (RT j E))
    (hvis : ∀ x c, X.env.cells.lookup x = some c → X.env.scope.names.lookup x = some .cell)
    (ha : PA X (e :: es) ta) (hg : Gl X "_law_all_raise" := by rfl) (he : starEach (e :: es) X.env = (false, eval e X.env) :: starEach es X.env := by rfl) (hpl : (backTo pos (starEach es X.env)).any (·.1) = false := by rfl) :
    PE X (.Call (.Name "_law_all_raise" p) (e :: es) [] pos) (tAllCX X.K CT cs (fun j H f => j < n ∧ Rdy (X.env.qual ++ "<lambda>") (Ls j) (cloFrom X.env.cells (Ls j).scope.names []) H f) RT ta) := by
  obtain ⟨g, fd, a, b, c, d⟩ := F.ex
  exact pe_allrX hfn c hr hg a b d hL hB hbody hvis ha he hpl
section
variable {K : PySem.W.Frag} {C CR : Addr} {cs : Nat → Addr} {N : List Str} {n : Str} {vs : List V} {H : Hp} {Q : VK} {E : XK} {t : XK → TS}
end
structure Seen (d : D) : Prop where
  c : CmpT d
  t : (tyD d).isSome = true
  e : ∀ x l, d = .tup (x :: l) → (tyD x).isSome = true
structure BadAt (l : List D) (k : Nat) : Prop where
  sn : ∀ x ∈ l, Seen x
  ok : ∀ (j : Nat) x, j < k → l[j]? = some x → isOpD x = true
  bad : ∃ x, l[k]? = some x ∧ isOpD x = false
end TkL


namespace TkL
open PySem PySem.Spec PySem.Calls PyProof.Rows L2 Tk
end TkL



namespace TkL
open PySem PySem.Spec PySem.Calls PyProof.Rows L2 Tk
section
variable (K : PySem.W.Frag) (C : Addr) (CJ : Addr) (CR : Addr) (CT : Addr) (cs : Nat → Addr) (E : XK)
end
end TkL



namespace TkL
open PySem PySem.Spec PySem.Calls PyProof.Rows L2 Tk
section
variable (K : PySem.W.Frag) (C : Addr) (CJ : Addr) (CR : Addr) (CT : Addr) (cs : Nat → Addr) (E : XK)
end
end TkL


namespace TkL
open PySem PySem.Spec PySem.Calls PyProof.Rows L2 Tk
theorem BadAt.lt {l : List D} {k : Nat} (h : BadAt l k) : k < l.length := by
  obtain ⟨y, hy, _⟩ := h.bad
  exact (List.getElem?_eq_some_iff.mp hy).1
section
variable {CR : Addr} (po : Option Addr) (s : RcS) (fp : List Addr) (ds : List D) (P : D → RcS → Prop) (PX : Nat → List D → RcS → Prop)
end
section
variable {CR : Addr} (ds : List D) (PX : Nat → List D → Prop)
end
end TkL


namespace TkL
open PySem PySem.Spec PySem.Calls PyProof.Rows L2 Tk LamX
abbrev SpK := List V → List V → Hp → VK → XK → Prop
def FnRK (P : Program) (w : World) (K : PySem.W.Frag) (mg : Str → Option Value) (base : Heap) (CX : CXT) (k : Nat) (f : Addr) (ks : List Str) (sp : SpK) : Prop :=
  ∀ (A : Around) (outer : List PySem.Env) (s : Shared) (H : Hp) (us ws : List Value) (vs zs : List V) (Q : VK) (E : XK), Room k A → Env0 P w K mg base A outer s H → Vals vs us → Vals zs ws → zs.length = ks.length → sp vs zs H Q E →
    codeAny (model P w) A (.call (.ref f) ⟨us, ks.zip ws⟩) (CR CX outer P w H s Q E) s
structure CmK (P : Program) (w : World) (K : PySem.W.Frag) (mg : Str → Option Value) (base : Heap) (CX : CXT) (k : Nat) (C : Addr) (m : Str) (ks : List Str) (sp : SpK) : Prop where
  ex : ∃ mc p g, ClX.CRead K C mc ∧ ClX.CMet K C mc m p g ∧ FnRK P w K mg base CX k g ks sp
def tCMethK (C : Addr) (n : Nat) (sp : SpK) (E : XK) (ta : TE) (t tk : TA) : TE := fun σ H Q => ta σ H fun x H1 => x = .ref C ∧ t σ H1 fun vs H2 => tk σ H2 fun zs H3 => zs.length = n ∧ sp (.ref C :: vs) zs H3 Q E
section
variable {X : Cx} {CX : CXT} {k : Nat} {C : Addr} {m : Str} {ks : List Str} {sp : SpK} {E : XK} {o e : Expr} {es : List Expr} {kws : List Keyword} {ta : TE} {t tk : TA} {apos pos : Pos}
theorem run_cmK {g q : Addr} {pins : List (Addr × Obj)} {σ : L2.St} {H : Hp} {s : Shared} {Q : VK} {us ws : List Value} {vs zs : List V} (F : FnRK X.prog X.w X.K X.mg X.base CX k g ks sp) (hr : Room k X.A) (hx : Passes CX X E)
    (I : Inv X ((q, PySem.W.methodObj (.ref g) (.ref C)) :: pins) σ H s) (r : Vals vs us) (rz : Vals zs ws) (hl : zs.length = ks.length) (h : sp (.ref C :: vs) zs H Q E) :
    wpAny (model X.prog X.w) X.A (call (.ref q) us (ks.zip ws)) (EP X pins σ Q) X.xe s := by
  have z : wpAny (model X.prog X.w) X.A (call (.ref q) us (ks.zip ws)) (EP X ((q, PySem.W.methodObj (.ref g) (.ref C)) :: pins) σ Q) X.xe s :=
    wpAny_call (PySem.W.method_call (ClX.pin_at I) (codeAny_mono (F X.A X.stack s H (.ref C :: us) ws (.ref C :: vs) zs Q E hr I.env0 (.cons rfl r) rz hl h) fun r s' hq => by
      cases r with
      | error e => exact hx _ σ H s e s' I hq
      | ok fl =>
        cases fl with
        | ret u => exact I.after hq
        | next => exact False.elim hq
        | brk => exact False.elim hq
        | cont => exact False.elim hq))
  exact thn z fun _ _ y => ClX.unpinE y
theorem pe_cmK {pl : Sem Bool} (F : CmK X.prog X.w X.K X.mg X.base CX k C m ks sp) (hr : Room k X.A) (hx : Passes CX X E) (he : PE X o ta) (ha : PA X (e :: es) t) (hkw : PK X kws tk)
    (hall : (backToKw pos (keywordEach kws X.env)).all (·.1.isSome) = true := by rfl) (hks : (backToKw pos (keywordEach kws X.env)).filterMap (·.1) = ks := by rfl)
    (hst : starEach (e :: es) X.env = (false, eval e X.env) :: starEach es X.env := by rfl) (hpl : ((backTo pos (starEach (e :: es) X.env)).any (·.1) || (backToKw pos (keywordEach kws X.env)).any (·.1.isNone)) = false := by rfl)
    (ht : eval (.Call (.Attribute o m apos) (e :: es) kws pos) X.env = (do
      let ov ← eval o X.env
      standAt apos.atName
      let (f, first) ← holding [ov] (getMethod ov m pl)
      callWith pos f first (backTo pos (starEach (e :: es) X.env)) (backToKw pos (keywordEach kws X.env))) := by rfl) : PE X (.Call (.Attribute o m apos) (e :: es) kws pos) (tCMethK C ks.length sp E ta t tk) := by
  obtain ⟨mc, p, g, r, c, F⟩ := F.ex
  refine ⟨fun pins s σ H Q I h => ?_⟩
  refine PySem.W.methodCall_KW (pl := pl) (thn (he.run pins s σ H _ I h) fun u s1 ⟨x, H1, I1, rx, ex, q⟩ => ?_) ht
  subst ex
  obtain rfl : u = Value.ref C := rx
  refine ClX.getmethcm_ok I1 r c fun s2 I2 => ?_
  refine PySem.W.callWith_of hpl (PySem.W.keeps_M (self := .ref C) c.fi) (evalArgs_kw2 hall (thn (ha.run pos _ s2 σ H1 _ I2 q) fun us s3 ⟨vs, H2, I3, rv, q2⟩ => ?_) hst)
  refine thn (hkw.run pos _ s3 σ H2 _ I3 q2) fun ws s4 ⟨zs, H3, I4, rz, hl, q3⟩ => ⟨⟨ClX.pin_at I4, I4.kIn⟩, ?_⟩
  rw [hks]
  exact run_cmK F hr hx I4 rv rz hl q3
theorem pe_cmK0 {pl : Sem Bool} (F : CmK X.prog X.w X.K X.mg X.base CX k C m [] sp) (hr : Room k X.A) (hx : Passes CX X E) (he : PE X o ta) (ha : PA X (e :: es) t) (hkw : PK X kws tk)
    (hall : (backToKw pos (keywordEach kws X.env)).all (·.1.isSome) = true := by rfl) (hks : (backToKw pos (keywordEach kws X.env)).filterMap (·.1) = [] := by rfl)
    (hst : starEach (e :: es) X.env = (false, eval e X.env) :: starEach es X.env := by rfl) (hpl : ((backTo pos (starEach (e :: es) X.env)).any (·.1) || (backToKw pos (keywordEach kws X.env)).any (·.1.isNone)) = false := by rfl)
    (ht : eval (.Call (.Attribute o m apos) (e :: es) kws pos) X.env = (do
      let ov ← eval o X.env
      standAt apos.atName
      let (f, first) ← holding [ov] (getMethod ov m pl)
      callWith pos f first (backTo pos (starEach (e :: es) X.env)) (backToKw pos (keywordEach kws X.env))) := by rfl) : PE X (.Call (.Attribute o m apos) (e :: es) kws pos) (tCMethK C 0 sp E ta t tk) := pe_cmK F hr hx he ha hkw hall hks hst hpl ht
theorem pe_cmK1 {k1 : Str} {pl : Sem Bool} (F : CmK X.prog X.w X.K X.mg X.base CX k C m [k1] sp) (hr : Room k X.A) (hx : Passes CX X E) (he : PE X o ta) (ha : PA X (e :: es) t) (hkw : PK X kws tk)
    (hall : (backToKw pos (keywordEach kws X.env)).all (·.1.isSome) = true := by rfl) (hks : (backToKw pos (keywordEach kws X.env)).filterMap (·.1) = [k1] := by rfl)
    (hst : starEach (e :: es) X.env = (false, eval e X.env) :: starEach es X.env := by rfl) (hpl : ((backTo pos (starEach (e :: es) X.env)).any (·.1) || (backToKw pos (keywordEach kws X.env)).any (·.1.isNone)) = false := by rfl)
    (ht : eval (.Call (.Attribute o m apos) (e :: es) kws pos) X.env = (do
      let ov ← eval o X.env
      standAt apos.atName
      let (f, first) ← holding [ov] (getMethod ov m pl)
      callWith pos f first (backTo pos (starEach (e :: es) X.env)) (backToKw pos (keywordEach kws X.env))) := by rfl) : PE X (.Call (.Attribute o m apos) (e :: es) kws pos) (tCMethK C 1 sp E ta t tk) := pe_cmK F hr hx he ha hkw hall hks hst hpl ht
end
def starKSp (n : Nat) (dv : V) (sp : Sp) : SpK := fun vs zs H Q E => ∃ ws rest v, vs = ws ++ rest ∧ ws.length = n ∧ rest.length ≤ sizeLine ∧ (zs = [] ∧ v = dv ∨ zs = [v]) ∧ ∀ p, H p = none → sp (ws ++ [v, .ref p]) (upd H p (.tup rest)) Q E
section
variable {P : Program} {w : World} {K : PySem.W.Frag} {mg : Str → Option Value} {base : Heap} {CX : CXT} {k : Nat} {f : Addr} {name qual : Str} {params : Arguments} {body : List Stmt} {scope : Scope} {dV kV doc pm cdv ct oc : Value} {an od : Option Addr}
  {osl : Array (Option Value)} {N ps : List Str} {sp : Sp} {kn pv : Str}
def BndT (fd : FuncData) (args : Args) (h : Heap) (pre : List (Str × Value)) (pv : Str) (rest : List Value) : Prop := ∀ M : Model, ∃ t : Sem (List (Str × Value)), t = (newTuple rest >>= fun t => pure (pre ++ [(pv, t)])) ∧ ∀ (A : Around) (Q : List (Str × Value) → Shared → Prop) (E : Value → Shared → Prop) (s : Shared), s.heap = h → wpAny M A t Q E s → wpAny M A (bindArgs fd args) Q E s
theorem fn_starK {args : Args} {A : Around} {outer : List PySem.Env} {s : Shared} {H : Hp} {us1 us2 : List Value} {ws rest : List V} {Q : VK} {E : XK} (lk : K.lookup f = some ⟨oc, od, .func (PySem.W.fnOf name qual params body scope dV kV doc pm an cdv ct), osl⟩) (hcd : PySem.W.codeIn K cdv qual = true) (S : FnScope N (ps ++ [pv]) scope) (hCX : StX.CXUp CX)
    (hr : Room (k + 1) A) (e0 : Env0 P w K mg base A outer s H) (r1 : Vals ws us1) (r2 : Vals rest us2) (hl : ws.length = ps.length) (hz : rest.length ≤ sizeLine)
    (hb : BndT (PySem.W.fnOf name qual params body scope dV kV doc pm an cdv ct) args s.heap (ps.zip us1) pv us2)
    (hbody : ∀ (s2 : Shared) (p : Addr), H p = Option.none → Room k (A.deeper (envOfC qual scope s2.heap.objs.size f cdv)) →
      ∃ t, PSs (cxOf CX P w K mg base N qual scope f cdv A outer s2 (upd H p (.tup rest)) E) body t ∧ t { nx := fun _ H' => Q .non H', rt := Q } (L2.start N (ws ++ [V.ref p])) (upd H p (.tup rest))) :
    codeAny (model P w) A (.call (.ref f) args) (CR CX outer P w H s Q E) s := by
  have hn : H s.heap.objs.size = Option.none := e0.hok.fresh (Nat.le_refl _)
  have hl1 : us1.length = ps.length := by rw [← r1.length]; exact hl
  have hl2 : us2.length ≤ sizeLine := by rw [← r2.length]; exact hz
  refine StX.run_bnd lk hcd S hr e0 (G := fun xs H2 => ∃ p, H p = Option.none ∧ xs = ws ++ [V.ref p] ∧ H2 = upd H p (.tup rest)) (fun A' Ex Q' h => ?_) fun s2 H2 xs ⟨p, hp, ex, eH⟩ hr' => ?_
  · obtain ⟨t, et, hb⟩ := hb (model P w)
    refine hb A' Q' Ex s rfl ?_
    rw [et]
    refine wpAny_bind (wpAny_newTuple (wpAny_pure ?_) hl2)
    have new : ObjOk P w (upd H s.heap.objs.size (.tup rest)) (s.heap.push ({ cls := .type "tuple", data := .seq us2.toArray } : Obj)) s.heap.objs.size (.tup rest) := ⟨hz, us2, r2, ⟨_, Heap.get?_push_size _ rfl, rfl, _, rfl⟩⟩
    have un := StX.un_laid (fs := frs outer) (s := s) (o := ({ cls := .type "tuple", data := .seq us2.toArray } : Obj)) (u := .tup rest) hn
    have z := h _ _ (ws ++ [V.ref s.heap.objs.size]) (us1 ++ [Value.ref s.heap.objs.size]) (StX.env0_laid e0 new) un rfl (fun e s' => hCX outer s H _ _ E e s' un (fun b o q => Heap.get?_push_of_some _ q) rfl) (r1.append (.cons rfl .nil))
      (by rw [List.length_append, List.length_append, hl] <;> rfl) ⟨_, hn, rfl, rfl⟩
    rw [List.zip_append hl1.symm] at z
    exact z
  · subst ex eH
    exact hbody s2 p hp hr'
theorem bndT_kw {fd : FuncData} {args : Args} {h : Heap} {pre : List (Str × Value)} {rest : List Value} (e : bindArgs fd args = (newTuple rest >>= fun t => pure (pre ++ [(pv, t)]))) : BndT fd args h pre pv rest := fun M => ⟨_, rfl, fun A Q E s _ hq => by rw [e]; exact hq⟩
def NoKw (fd : FuncData) (args : Args) (D : Addr) (x : Str) (u : Value) (r : Sem (List (Str × Value))) : Prop := ∃ (β γ : Type) (k1 : Option Value → Sem β) (k2 : β → Sem γ) (k3 : γ → Sem (List (Str × Value))) (a : β), bindArgs fd args = ((nsGet D x >>= k1) >>= k2) >>= k3 ∧ k1 (some u) = pure a ∧ (k2 a >>= k3) = r
theorem bndT_no {fd : FuncData} {args : Args} {h : Heap} {pre : List (Str × Value)} {rest : List Value} {D : Addr} {x : Str} {u : Value} (X : K.In h) (hn : PySem.W.nsIn K D x = some (some u)) (e : NoKw fd args D x u (newTuple rest >>= fun t => pure (pre ++ [(pv, t)]))) : BndT fd args h pre pv rest := fun M =>
  ⟨_, rfl, fun A Q E s hs hq => by
    subst hs
    obtain ⟨β, γ, k1, k2, k3, a, e1, e2, e3⟩ := e
    have l1 : PySem.W.Looks M s.heap (nsGet D x >>= k1) a := (PySem.W.looks_nsIn X hn).andThen (PySem.W.Looks.of_pure e2)
    rw [e1, bind_assoc]
    refine wpAny_bind (l1.here ?_)
    rw [e3]
    exact hq⟩
theorem okCmK {D T0 : Addr} {x1 x2 : Str} (lk : K.lookup f = some ⟨oc, od, .func (PySem.W.fnOf name qual params body scope dV (.ref D) doc pm an cdv ct), osl⟩) (hcd : PySem.W.codeIn K cdv qual = true) (S : FnScope N [x1, x2, kn, pv] scope) (hCX : StX.CXUp CX) (hD : PySem.W.nsIn K D kn = some (some (.ref T0)))
    (hb0 : ∀ (a b : Value) (rest : List Value), NoKw (PySem.W.fnOf name qual params body scope dV (.ref D) doc pm an cdv ct) ⟨a :: b :: rest, []⟩ D kn (.ref T0) (newTuple rest >>= fun t => pure [(x1, a), (x2, b), (kn, .ref T0), (pv, t)]))
    (hb1 : ∀ (a b u : Value) (rest : List Value), bindArgs (PySem.W.fnOf name qual params body scope dV (.ref D) doc pm an cdv ct) ⟨a :: b :: rest, [(kn, u)]⟩ = (newTuple rest >>= fun t => pure [(x1, a), (x2, b), (kn, u), (pv, t)]))
    (hbody : ∀ (A : Around) (outer : List PySem.Env) (s : Shared) (H : Hp) (vs : List V) (Q : VK) (E : XK), Room k (A.deeper (envOfC qual scope s.heap.objs.size f cdv)) → sp vs H Q E →
      ∃ t, PSs (cxOf CX P w K mg base N qual scope f cdv A outer s H E) body t ∧ t { nx := fun _ H' => Q .non H', rt := Q } (L2.start N vs) H) :
    FnRK P w K mg base CX (k + 1) f [] (starKSp 2 (.ref T0) sp) ∧ FnRK P w K mg base CX (k + 1) f [kn] (starKSp 2 (.ref T0) sp) := by
  have two : ∀ {vs : List V} {us : List Value}, Vals vs us → vs.length = 2 → ∃ a b, us = [a, b] := fun {vs us} r hl => by
    have : us.length = 2 := by rw [← r.length]; exact hl
    match us, this with
    | [a, b], _ => exact ⟨a, b, rfl⟩
  constructor
  · intro A outer s H us zv vs zs Q E hr e0 r rz hl hsp
    obtain ⟨ws, rest, v, rfl, hl2, hz, hv, hq⟩ := hsp
    obtain rfl : zs = [] := List.length_eq_zero_iff.mp hl
    cases rz
    rcases hv with ⟨_, rfl⟩ | hv
    · obtain ⟨u1, u2, rfl, r1, r2⟩ := StX.vals_split r
      obtain ⟨a, b, rfl⟩ := two r1 hl2
      have KX : K.In s.heap := e0.mod.kin.keeps fun b o e => (e0.bs b o e).1
      refine fn_starK (ps := [x1, x2, kn]) (pv := pv) (us1 := [a, b, .ref T0]) (ws := ws ++ [.ref T0]) lk hcd S hCX hr e0 (r1.append (.cons (show RelV (V.ref T0) (Value.ref T0) from rfl) .nil)) r2 (by rw [List.length_append, hl2]; rfl) hz (bndT_no KX hD (hb0 a b u2)) fun s2 p hp hr2 => ?_
      obtain ⟨t, h1, h2⟩ := hbody A outer s2 _ _ Q E hr2 (hq p hp)
      exact ⟨t, h1, by rw [List.append_assoc]; exact h2⟩
    · cases hv
  · intro A outer s H us zv vs zs Q E hr e0 r rz hl hsp
    obtain ⟨ws, rest, v, rfl, hl2, hz, hv, hq⟩ := hsp
    rcases hv with ⟨rfl, _⟩ | rfl
    · cases hl
    · cases rz with | cons rv rn =>
      cases rn
      obtain ⟨u1, u2, rfl, r1, r2⟩ := StX.vals_split r
      obtain ⟨a, b, rfl⟩ := two r1 hl2
      refine fn_starK (ps := [x1, x2, kn]) (pv := pv) (us1 := [a, b, _]) (ws := ws ++ [v]) lk hcd S hCX hr e0 (r1.append (.cons rv .nil)) r2 (by rw [List.length_append, hl2]; rfl) hz (bndT_kw (hb1 a b _ u2)) fun s2 p hp hr2 => ?_
      obtain ⟨t, h1, h2⟩ := hbody A outer s2 _ _ Q E hr2 (hq p hp)
      exact ⟨t, h1, by rw [List.append_assoc]; exact h2⟩
end
end TkL


namespace TkL
open PySem PySem.Spec PySem.Calls PyProof.Rows L2 Tk LamX
def TupN (K : PySem.W.Frag) (T0 : Addr) : Prop := ∃ (o : Obj) (its : Array Value) (n : Nat), K.lookup T0 = some o ∧ o.cls = .type "tuple" ∧ o.data = .seq its n ∧ its.size ≤ sizeLine ∧ Vals [] its.toList
def PlK (n : Nat) (ds es : List D) (Z : List D → Prop) : Prop := es.length = n ∧ ∃ s0 l y, ds = s0 :: l ∧ l.length ≤ 1000 ∧ (es = [] ∧ y = .tup [] ∨ es = [y]) ∧ Z [.cls, s0, y, .tup l]
def uCK (n : Nat) (g : UEX) (a kw : UA) : UCE := fun ρ P PX => a ρ fun ds ρ1 => kw ρ1 fun es ρ2 => PlK n ds es fun zs => g zs (fun d => P d ρ2) fun j es => PX j es ρ2
theorem e_ck {n : Nat} {g : UEX} {a kw : UA} {ρ : Env} {P : D → Env → Prop} {PX : Nat → List D → Env → Prop} : uCK n g a kw ρ P PX = a ρ fun ds ρ1 => kw ρ1 fun es ρ2 => PlK n ds es fun zs => g zs (fun d => P d ρ2) fun j es => PX j es ρ2 := rfl
theorem plK0 {s0 : D} {l : List D} {Z : List D → Prop} : PlK 0 (s0 :: l) [] Z ↔ l.length ≤ 1000 ∧ Z [.cls, s0, .tup [], .tup l] := by
  constructor
  · rintro ⟨_, _, _, y, e, h, h2, hz⟩
    cases e
    rcases h2 with ⟨_, rfl⟩ | h2
    · exact ⟨h, hz⟩
    · cases h2
  · rintro ⟨h, hz⟩
    exact ⟨rfl, _, _, _, rfl, h, .inl ⟨rfl, rfl⟩, hz⟩
theorem plK1 {s0 y : D} {l : List D} {Z : List D → Prop} : PlK 1 (s0 :: l) [y] Z ↔ l.length ≤ 1000 ∧ Z [.cls, s0, y, .tup l] := by
  constructor
  · rintro ⟨_, _, _, y, e, h, h2, hz⟩
    cases e
    rcases h2 with ⟨h2, _⟩ | h2
    · cases h2
    · cases h2
      exact ⟨h, hz⟩
  · rintro ⟨h, hz⟩
    exact ⟨rfl, _, _, _, rfl, h, .inr rfl, hz⟩
section
variable {B : Bs} {cs : Nat → Addr} {A Ak : TA} {U Uk : UA} {g : UEX} {up : UP} {tf : TE} {T0 : Addr} {n : Nat}
theorem sRE_cmK (T : TupN B.K T0) (hf : SimW B tf (uC .cls)) (hA : SimXP B A U) (hK : SimXP B Ak Uk) : SimRE B cs (fun E => tCMethK B.C n (starKSp 2 (.ref T0) (spE B.K B.C cs g)) E tf A Ak) (uCK n g U Uk) := fun H F σ ρ E Q P PX R hu kP kX =>
  hf H F σ ρ _ (fun d ρ' => d = .cls ∧ ρ' = ρ) R ⟨rfl, rfl⟩ fun H0 F0 v d ρ' e0 k0 R0 r0 p0 => by
    obtain ⟨rfl, rfl⟩ := p0
    cases r0
    refine ⟨rfl, hA H0 F0 σ _ _ _ R0 hu fun H1 F1 vs ds ρ1 e1 k1 R1 r1 p1 => hK H1 F1 σ _ _ _ R1 p1 fun H2 F2 zs es ρ2 e2 k2 R2 r2 p2 => ?_⟩
    obtain ⟨hn, s0, l, y, rfl, hl, hy, hg⟩ := p2
    have r1 := r1.ex e2
    cases r1 with | cons rs rl =>
    refine ⟨by rw [r2.len, hn], ?_⟩
    have ry : ∃ v, (zs = [] ∧ v = V.ref T0 ∨ zs = [v]) ∧ Rep B.K B.C B.dO F2 v y := by
      rcases hy with ⟨rfl, rfl⟩ | rfl
      · cases r2
        exact ⟨_, .inl ⟨rfl, rfl⟩, .tup (.inr T) .nil⟩
      · cases r2 with | cons ra rb =>
        cases rb
        exact ⟨_, .inr rfl, ra⟩
    obtain ⟨v, hv, rv⟩ := ry
    refine ⟨[.ref B.C, _], _, v, rfl, rfl, by rw [rl.len]; exact sz_of (Nat.le_trans hl (by decide)), hv, fun p hp => ?_⟩
    obtain ⟨s, r⟩ := new_tup R2.toRelH hp rl
    have R3 := s.rel _ _ R2
    have c3 := (k0.x R0.toRelH).trans (k1.trans (k2.trans ((s.kq R2).x (s.relH R2.toRelH))))
    exact spE_call R3 (.cons .cls (.cons (rs.ex s.ex) (.cons (rv.ex s.ex) (.cons r .nil)))) hg
      (fun H4 F4 v d s4 R4 rp p => kP H4 F4 v d ρ2 (e0.trans (e1.trans (e2.trans (s.ex.trans s4.ex)))) (c3.trans ((s4.kq R3).x (s4.relH R3.toRelH))) R4 rp p)
      (fun H4 F4 j es c d s4 R4 x p => kX H4 F4 j es c d ρ2 (e0.trans (e1.trans (e2.trans (s.ex.trans s4.ex)))) (c3.trans ((s4.kq R3).x (s4.relH R3.toRelH))) R4 x p)
end
end TkL


namespace TkL
open PySem PySem.Spec PySem.Calls PyProof.Rows L2 Tk LamX
def ConI (K : PySem.W.Frag) (C : Addr) (f : Str) (i : Int) : Prop := ∃ mc u, ClX.CRead K C mc ∧ ClX.CVal K C mc f (.int i) u
def uCVal (i : Int) (ua : UE) : UE := fun ρ P => ua ρ fun y ρ1 => y = .cls ∧ P (.int i) ρ1
theorem e_cval {i : Int} {ua : UE} {ρ : Env} {P : D → Env → Prop} : uCVal i ua ρ P = ua ρ fun y ρ1 => y = .cls ∧ P (.int i) ρ1 := rfl
def uTry0 (u : UCE) : UE := fun ρ P => u ρ P fun _ _ _ => False
theorem e_try0 {u : UCE} {ρ : Env} {P : D → Env → Prop} : uTry0 u ρ P = u ρ P fun _ _ _ => False := rfl
section
variable {B : Bs} {cs : Nat → Addr} {ta : TE} {ua : UE} {f : Str} {i : Int} {t : XK → TE} {u : UCE}
theorem sE_cval (h : ConI B.K B.C f i) (ha : SimW B ta ua) : SimE B (ClX.tCVal B.K ta f) (uCVal i ua) := fun H F σ ρ Q P R hu k =>
  ha H F σ ρ _ _ R hu fun H1 F1 v d ρ1 e1 k1 R1 r1 p1 => by
    obtain ⟨rfl, p1⟩ := p1
    obtain ⟨mc, w, hr, hv⟩ := h
    cases r1
    exact ⟨_, mc, _, w, rfl, hr, hv, k _ _ _ _ ρ1 e1 k1 R1 .int p1⟩
theorem sX_try0 (h : SimRE B cs t u) : SimX B (t E0) (uTry0 u) := fun H F σ ρ Q P R hu k =>
  h H F σ ρ E0 Q P (fun _ _ _ => False) R hu k fun _ _ _ _ _ _ _ _ _ _ _ p => p.elim
end
theorem passN0 {P : Program} {w : World} {X : Cx} : Passes (L2N.CX P w) X E0 := fun pins σ H s e s' I h => by
  obtain ⟨a, b, c, d, e1, h⟩ := h
  exact h.2.2.2.2.2.2.2.elim
def upRowOfLaps : UP := fun ds P => ∃ s fs ls, ds = [.int s, .tup (iL fs), .tup (iL ls)] ∧ 0 ≤ s ∧ (∀ x ∈ fs, 1 ≤ x) ∧ (∀ x ∈ ls, 1 ≤ x) ∧ ls ≠ [] ∧ s + fs.sum ≤ 200000 ∧ ls.sum ≤ 20000 ∧ ∀ r, RB r → (∀ t, r.has t = planHas s fs ls t) → P (.row r)
theorem ad_rowl {K : PySem.W.Frag} {C : Addr} {H : Hp} {vs : List V} {Q : VK} {E : XK} (h : spU K C upRowOfLaps vs H Q E) : spRowOfLaps K C vs H Q E := by
  obtain ⟨dO, F, ds, P, R, r, ⟨s, fs, ls, rfl, h0, h1, h2, h3, h4, h5, p⟩, k⟩ := h
  cases r with | cons a r => cases r with | cons b r => cases r with | cons c r =>
    cases r; cases a
    cases b with | tup b1 b2 => cases c with | tup c1 c2 =>
      have z1 := b2.ints
      have z2 := c2.ints
      subst z1 z2
      exact ⟨s, _, _, fs, ls, rfl, .inr (R.fh.sqT b1), .inr (R.fh.sqT c1), h0, h1, h2, h3, h4, h5, fun H' a r e hn ra hh => k _ H' _ _ (p r ra.rb hh) (retE R e) (.row (rowE R e ra))⟩
end TkL


namespace TkL
open PySem PySem.Spec PySem.Calls PyProof.Rows L2 Tk LamX
structure RowK (K : PySem.W.Frag) (C : Addr) : Prop where
  MAX_START : ConI K C "MAX_START" 10000
  MAX_LAP : ConI K C "MAX_LAP" 60
  MAX_LAPS : ConI K C "MAX_LAPS" 12
def GoodLap : D → Prop
  | .int n => 1 ≤ n ∧ n ≤ 60
  | _ => False
def GoodL (l : List D) : Prop := (∀ x ∈ l, GoodLap x) ∧ l.length ≤ 12
def LapAt (l : List D) (i : Nat) : Prop := ∃ pre d post, l = pre ++ d :: post ∧ pre.length = i ∧ (∀ x ∈ pre, GoodLap x) ∧ i ≤ 12 ∧ (i = 12 ∨ BadI 1 60 d)
def gCkl : UEX := fun ds P PX => ∃ (z : Str) (l : List D), ds = [.str z, .tup l, .int 12, .int 60] ∧ ((GoodL l ∧ P .non) ∨ ∃ i : Nat, LapAt l i ∧ PX 8 [.str z, .int i])
def NoTup : D → Prop
  | .int _ | .bl _ | .non | .str _ | .lst _ => True
  | _ => False
def gOfl : UEX := fun ds P PX => ∃ (s f : D) (l : List D), ds = [.cls, s, f, .tup l] ∧ ((BadI 0 10000 s ∧ PX 8 [.str "start", .int 0]) ∨ ∃ n : Int, s = .int n ∧ 0 ≤ n ∧ n ≤ 10000 ∧
  ((∃ i : Nat, LapAt l i ∧ PX 8 [.str "laps", .int i]) ∨ (l = [] ∧ PX 8 [.str "laps", .int 0]) ∨ l ≠ [] ∧ GoodL l ∧
    ((NoTup f ∧ PX 8 [.str "first", .int 0]) ∨ ∃ m, f = .tup m ∧ ((∃ i : Nat, LapAt m i ∧ PX 8 [.str "first", .int i]) ∨ GoodL m ∧ ∀ fs ls r, m = iL fs → l = iL ls → RB r → (∀ t, r.has t = planHas n fs ls t) → P (.row r)))))
end TkL



namespace TkL
open PySem PySem.Spec PySem.Calls PyProof.Rows L2 Tk
section
variable (K : PySem.W.Frag) (C : Addr) (CJ : Addr) (cs : Nat → Addr) (E : XK)
def tEckl : TS := (tFor (iEnumA K (tCons (tPer 1) tNil)) (gTup K 2 (gCons (gName 4) (gCons (gName 5) gNil))) (tIfS (tOr (tTest (tOp rEq (tVar 4) (tVar 2))) (tNot (tB (tDef (spU K C upIii) E0 (tCons (tPer 5) (tCons (tC (.int 1)) (tCons (tPer 3) tNil))))))) (tRaiseF K cs 8 (tCons (tPer 0) (tCons (tPer 4) tNil)) E) tNext))
def tEofl : TS := (tSeq (tIfS (tNot (tB (tDef (spU K C upIii) E0 (tCons (tPer 1) (tCons (tC (.int 0)) (tCons (ClX.tCVal K (tVar 0) "MAX_START") tNil)))))) (tRaiseF K cs 8 (tCons (tC (.str "start")) (tCons (tC (.int 0)) tNil)) E) tNext)
    (tSeq (tDrop (tDef (spE K C cs gCkl) E (tCons (tC (.str "laps")) (tCons (tPer 3) (tCons (ClX.tCVal K (tVar 0) "MAX_LAPS") (tCons (ClX.tCVal K (tVar 0) "MAX_LAP") tNil))))))
    (tSeq (tIfS (tTest (tOp (rEqD K) (tVar 3) (tTup tNil))) (tRaiseF K cs 8 (tCons (tC (.str "laps")) (tCons (tC (.int 0)) tNil)) E) tNext)
    (tSeq (tIfS (tNot (tB (tCB (kIsi K) (tCons (tVar 2) (tCons (tC (.ty "tuple")) tNil))))) (tRaiseF K cs 8 (tCons (tC (.str "first")) (tCons (tC (.int 0)) tNil)) E) tNext)
    (tSeq (tDrop (tDef (spE K C cs gCkl) E (tCons (tC (.str "first")) (tCons (tPer 2) (tCons (ClX.tCVal K (tVar 0) "MAX_LAPS") (tCons (ClX.tCVal K (tVar 0) "MAX_LAP") tNil))))))
    (tRet (tDef (spU K C upRowOfLaps) E0 (tCons (tPer 1) (tCons (tPer 2) (tCons (tPer 3) tNil))))))))))
end
def uEckl (Wu : Nat → List D → Env → Prop) : US := (uFor (uEnum (uCons (uPer 1) uNil)) (uGTup 2 (uGCons (uName 4) (uGCons (uName 5) uGNil))) (uIfS (uOr (uB (uOp qEq (uVar 4) (uVar 2))) (uNot (uB (uDef upIii (uCons (uPer 5) (uCons (uC (.int 1)) (uCons (uPer 3) uNil))))))) (uRaiseE 8 (uCons (uPer 0) (uCons (uPer 4) uNil)) Wu) uNext))
theorem simEckl {K : PySem.W.Frag} {C : Addr} {cs : Nat → Addr} (T8 : OexJ K cs 8) (B : Bs) (E : XK) (Wu : Nat → List D → Env → Prop) (hK : B.K = K) (hC : B.C = C) (hE : HE B cs E Wu) : SimS B (tEckl K C cs E) (uEckl Wu) := by
  subst hK hC
  exact (sS_for (sI_enum (sP_cons sE_per sP_nil)) (sG_tup (sGs_cons sG_name (sGs_cons sG_name sGs_nil))) (sS_if (sT_or (sT_test (SimE.w (sE_op s2_Eq sW_var sW_var))) (sT_not (sT_B (SimE.w (sE_def (sP_cons sE_per (sP_cons sE_int (sP_cons sE_per sP_nil)))))))) (sS_raiseF hE T8 (by decide) (sP_cons sE_per (sP_cons sE_per sP_nil))) sS_next))
def uEofl (Wu : Nat → List D → Env → Prop) : US := (uSeq (uIfS (uNot (uB (uDef upIii (uCons (uPer 1) (uCons (uC (.int 0)) (uCons (uCVal 10000 (uVar 0)) uNil)))))) (uRaiseE 8 (uCons (uC (.str "start")) (uCons (uC (.int 0)) uNil)) Wu) uNext)
    (uSeq (uDrop (uTry1 (uCE gCkl (uCons (uC (.str "laps")) (uCons (uPer 3) (uCons (uCVal 12 (uVar 0)) (uCons (uCVal 60 (uVar 0)) uNil))))) Wu))
    (uSeq (uIfS (uB (uOp qEqD (uVar 3) (uTup uNil))) (uRaiseE 8 (uCons (uC (.str "laps")) (uCons (uC (.int 0)) uNil)) Wu) uNext)
    (uSeq (uIfS (uNot (uB (uIsi "tuple" (uVar 2)))) (uRaiseE 8 (uCons (uC (.str "first")) (uCons (uC (.int 0)) uNil)) Wu) uNext)
    (uSeq (uDrop (uTry1 (uCE gCkl (uCons (uC (.str "first")) (uCons (uPer 2) (uCons (uCVal 12 (uVar 0)) (uCons (uCVal 60 (uVar 0)) uNil))))) Wu))
    (uRet (uDef upRowOfLaps (uCons (uPer 1) (uCons (uPer 2) (uCons (uPer 3) uNil))))))))))
theorem simEofl {K : PySem.W.Frag} {C : Addr} {cs : Nat → Addr} (KK : RowK K C) (T8 : OexJ K cs 8) (B : Bs) (E : XK) (Wu : Nat → List D → Env → Prop) (hK : B.K = K) (hC : B.C = C) (hE : HE B cs E Wu) : SimS B (tEofl K C cs E) (uEofl Wu) := by
  subst hK hC
  exact (sS_seq (sS_if (sT_not (sT_B (SimE.w (sE_def (sP_cons sE_per (sP_cons sE_int (sP_cons (sE_cval KK.MAX_START sW_var) sP_nil))))))) (sS_raiseF hE T8 (by decide) (sP_cons sE_str (sP_cons sE_int sP_nil))) sS_next)
    (sS_seq (sS_dropX (sX_try1 (sRE_def (sXP_cons (SimE.x sE_str) (sXP_cons (SimE.x sE_per) (sXP_cons (SimE.x (sE_cval KK.MAX_LAPS sW_var)) (sXP_cons (SimE.x (sE_cval KK.MAX_LAP sW_var)) sXP_nil))))) hE))
    (sS_seq (sS_if (sT_test (SimE.w (sE_op s2_EqD sW_var (SimE.w (sE_tup sP_nil))))) (sS_raiseF hE T8 (by decide) (sP_cons sE_str (sP_cons sE_int sP_nil))) sS_next)
    (sS_seq (sS_if (sT_not (sT_B (SimE.w (sE_isi sW_var)))) (sS_raiseF hE T8 (by decide) (sP_cons sE_str (sP_cons sE_int sP_nil))) sS_next)
    (sS_seq (sS_dropX (sX_try1 (sRE_def (sXP_cons (SimE.x sE_str) (sXP_cons (SimE.x sE_per) (sXP_cons (SimE.x (sE_cval KK.MAX_LAPS sW_var)) (sXP_cons (SimE.x (sE_cval KK.MAX_LAP sW_var)) sXP_nil))))) hE))
    (sS_ret (sE_def (sP_cons sE_per (sP_cons sE_per (sP_cons sE_per sP_nil))))))))))
end TkL


namespace TkL
open PySem PySem.Spec PySem.Calls PyProof.Rows L2 Tk
theorem good_i {d : D} (h : GoodLap d) : ∃ n : Int, d = .int n ∧ 1 ≤ n ∧ n ≤ 60 := by
  cases d with
  | int n => exact ⟨n, rfl, h.1, h.2⟩
  | _ => exact h.elim
theorem iii_good {d : D} {P : D → Prop} (h : GoodLap d) (p : P (.bl true)) : upIii [d, .int 1, .int 60] P := by
  obtain ⟨n, rfl, h1, h2⟩ := good_i h
  refine ⟨_, _, _, rfl, .inl ⟨n, rfl, ?_⟩⟩
  rw [decide_eq_true h1, decide_eq_true h2]; exact p
theorem good_bad {d : D} (h : GoodLap d) (b : BadI 1 60 d) : False := by
  obtain ⟨n, rfl, h1, h2⟩ := good_i h
  exact b ⟨h1, h2⟩
theorem ckl_step {l : List D} {P : Prop} {Z : Nat → Prop} (h : GoodL l ∧ P ∨ ∃ i, LapAt l i ∧ Z i) : (∀ i d, l[i]? = some d → i ≤ 12 → (∀ x ∈ l.take i, GoodLap x) → (i < 12 ∧ GoodLap d) ∨ ((i = 12 ∨ BadI 1 60 d) ∧ Z i)) ∧ (l.length ≤ 12 → (∀ x ∈ l, GoodLap x) → P) := by
  rcases h with ⟨⟨hg, hl⟩, p⟩ | ⟨k, ⟨pre, d, post, rfl, rfl, hp, h12, hb⟩, z⟩
  · exact ⟨fun i d hi h12 _ => .inl ⟨Nat.lt_of_lt_of_le (lt_of_get hi) hl, hg d (List.mem_of_getElem? hi)⟩, fun _ _ => p⟩
  · have at_k : (pre ++ d :: post)[pre.length]? = some d := by rw [List.getElem?_append_right (Nat.le_refl _), Nat.sub_self]; rfl
    have no : ∀ i, pre.length < i → i ≤ 12 → (∀ x ∈ (pre ++ d :: post).take i, GoodLap x) → False := fun i hi h2 hg => by
      rcases hb with hb | hb
      · omega
      · exact good_bad (hg d (List.mem_of_getElem? (i := pre.length) (by rw [List.getElem?_take_of_lt hi]; exact at_k))) hb
    refine ⟨fun i e hi h2 hg => ?_, fun h2 hg => (no (pre ++ d :: post).length (by rw [List.length_append, List.length_cons]; omega) h2 (by rw [List.take_length]; exact hg)).elim⟩
    rcases Nat.lt_trichotomy i pre.length with c | c | c
    · rw [List.getElem?_append_left c] at hi
      exact .inl ⟨by omega, hp e (List.mem_of_getElem? hi)⟩
    · subst c
      rw [at_k] at hi
      cases hi
      exact .inr ⟨hb, z⟩
    · exact (no i c h2 hg).elim
theorem rdEckl (ds : List D) (P : D → Prop) (PX : Nat → List D → Prop) (h : gCkl ds P PX) : uEckl (fun j es _ => PX j es) { nx := fun _ => P .non, rt := P, bk := fun _ => False, ct := fun _ => False } (startU ["part", "laps", "most", "longest", "index", "lap"] ds) := by
  obtain ⟨z, l, rfl, h⟩ := h
  show uEckl _ _ [.val (.str z), .val (.tup l), .val (.int 12), .val (.int 60), .no, .no]
  unfold uEckl
  walk_at "ewy"
  obtain ⟨hs, he⟩ := ckl_step h
  clear h
  refine for_inv (fun i ρ => ∃ u v, ρ = [.val (.str z), .val (.tup l), .val (.int 12), .val (.int 60), u, v] ∧ i ≤ 12 ∧ ∀ x ∈ l.take i, GoodLap x) ⟨_, _, rfl, by omega, fun x hx => nomatch hx⟩ ?_ ?_
  · rintro i d ρ hd ⟨u, v, rfl, h12, hg⟩
    obtain ⟨w, hw, rfl⟩ : ∃ w, l[i]? = some w ∧ d = .tup [.int (i : Nat), w] := by
      have li : i < l.length := by
        have := lt_of_get hd
        rw [enD_length] at this; exact this
      refine ⟨l[i], List.getElem?_eq_getElem li, ?_⟩
      rw [enD_get (List.getElem?_eq_getElem li)] at hd
      exact (Option.some.inj hd).symm
    clear hd
    have hs := hs i w hw h12 hg
    refine ⟨rfl, _, _, rfl, _, _, rfl, rfl, ?_⟩
    walk_at "ewy"
    rcases hs with ⟨hi, g⟩ | ⟨hb, z1⟩
    · refine iteF' (by rw [decide_eq_true_iff]; omega) ?_
      refine iii_good g ?_
      refine ⟨true, rfl, iteF' (by decide) ⟨_, _, rfl, by omega, fun x hx => ?_⟩⟩
      rw [take_succ_of hw] at hx
      rcases List.mem_append.mp hx with q | q
      · exact hg x q
      · rw [List.mem_singleton.mp q]; exact g
    · by_cases c : i = 12
      · exact iteT' (decide_eq_true (by omega)) ⟨rfl, z1⟩
      · refine iteF' (by rw [decide_eq_true_iff]; omega) ?_
        exact iii_badI (hb.resolve_left c) ⟨false, rfl, iteT' rfl ⟨rfl, z1⟩⟩
  · rintro ρ ⟨u, v, rfl, h12, hg⟩
    rw [enD_length, List.take_length] at hg
    rw [enD_length] at h12
    exact he h12 hg
theorem goods_i : ∀ {l : List D}, (∀ x ∈ l, GoodLap x) → ∃ ns : List Int, l = iL ns ∧ ∀ x ∈ ns, 1 ≤ x ∧ x ≤ 60
  | [], _ => ⟨[], rfl, fun x hx => nomatch hx⟩
  | d :: l, h => by
    obtain ⟨n, rfl, h1⟩ := good_i (h d (List.mem_cons_self ..))
    obtain ⟨ns, rfl, h2⟩ := goods_i (l := l) fun x hx => h x (List.mem_cons_of_mem _ hx)
    exact ⟨n :: ns, rfl, fun x hx => by
      rcases List.mem_cons.mp hx with rfl | hx
      · exact h1
      · exact h2 x hx⟩
theorem sum_le60 : ∀ {l : List Int}, (∀ x ∈ l, 1 ≤ x ∧ x ≤ 60) → l.sum ≤ 60 * l.length
  | [], _ => by simp
  | a :: l, h => by
    have h1 := h a (List.mem_cons_self ..)
    have h2 := sum_le60 (l := l) fun x hx => h x (List.mem_cons_of_mem _ hx)
    rw [List.sum_cons, List.length_cons]
    omega
theorem rdEofl (ds : List D) (P : D → Prop) (PX : Nat → List D → Prop) (h : gOfl ds P PX) : uEofl (fun j es _ => PX j es) { nx := fun _ => P .non, rt := P, bk := fun _ => False, ct := fun _ => False } (startU ["cls", "start", "first", "laps"] ds) := by
  obtain ⟨s, f, l, rfl, h⟩ := h
  show uEofl _ _ [.val .cls, .val s, .val f, .val (.tup l)]
  unfold uEofl
  walk_at "ewy"
  simp only [e_cval]
  walk_at "ewy"
  rcases h with ⟨hb, h⟩ | ⟨n, rfl, n0, n1, h⟩
  · exact iii_badI hb ⟨false, rfl, iteT' rfl ⟨rfl, h⟩⟩
  refine ⟨_, _, _, rfl, .inl ⟨n, rfl, ?_⟩⟩
  rw [decide_eq_true n0, decide_eq_true n1]
  refine ⟨true, rfl, iteF' (by decide) ?_⟩
  rcases h with ⟨i, hb, h⟩ | ⟨rfl, h⟩ | ⟨hne, hg, h⟩
  · exact ⟨_, _, rfl, .inr ⟨i, hb, h⟩⟩
  · refine ⟨_, _, rfl, .inl ⟨⟨nofun, by decide⟩, ?_⟩⟩
    exact (e_eqT0 (l := [])).mpr ⟨true, rfl, iteT' rfl ⟨rfl, h⟩⟩
  · obtain ⟨ls, rfl, hls⟩ := goods_i hg.1
    refine ⟨_, _, rfl, .inl ⟨hg, ?_⟩⟩
    have hn : ls ≠ [] := fun z => hne (by rw [z]; rfl)
    refine e_eqT0.mpr ⟨false, by rw [decide_eq_false hn], iteF' (by decide) ?_⟩
    simp only [e_isi]
    walk_at "ewy"
    rcases h with ⟨hf, h⟩ | ⟨m, rfl, h⟩
    · refine ⟨false, by cases f <;> first | rfl | exact hf.elim, iteT' rfl ⟨rfl, h⟩⟩
    refine ⟨true, rfl, iteF' (by decide) ?_⟩
    rcases h with ⟨i, hb, h⟩ | ⟨hm, h⟩
    · exact ⟨_, _, rfl, .inr ⟨i, hb, h⟩⟩
    · obtain ⟨fs, rfl, hfs⟩ := goods_i hm.1
      have l1 : (iL fs).length = fs.length := by unfold iL; rw [List.length_map]
      have l2 : (iL ls).length = ls.length := by unfold iL; rw [List.length_map]
      have s1 := sum_le60 hfs
      have s2 := sum_le60 hls
      have h1 := hm.2
      have h2 := hg.2
      rw [l1] at h1
      rw [l2] at h2
      exact ⟨_, _, rfl, .inl ⟨hm, n, fs, ls, rfl, n0, fun x hx => (hfs x hx).1, fun x hx => (hls x hx).1, hn, by omega, by omega, fun r rb hr => h fs ls r rfl rfl rb hr⟩⟩
end TkL


namespace TkL
open PySem PySem.Spec PySem.Calls PyProof.Rows L2 Tk LamX
def tErrVX (K : PySem.W.Frag) (CT : Addr) (cs : Nat → Addr) (RDY : Nat → Hp → Addr → Prop) (RT : Nat → XK → TE) (ta : TA) : TE := fun σ H Q => ta σ H fun vs H1 => ∃ j f, vs = [.ref f] ∧ RDY j H1 f ∧ ∀ (E2 : XK) (N2 : VK),
  (∀ i es d H'', ErrX K cs i → PySem.W.exmOne K (.ref (cs i)) (.ref CT) = some true → ExnV H'' i es d → (∀ H3 q, Ex H'' H3 → Told H3 q i es → Q (.ref q) H3) → E2 (.ref (cs i)) d H'') → RT j E2 σ H1 N2
theorem told_unfz {ce : List (Addr × Obj)} {H : Hp} {p : Addr} {i : Nat} {es : List V} (c : Clls ce H) (h : Told H p i es) : Told (unfz ce H) p i es := by
  unfold Told at h ⊢
  split at h
  · exact c.uns h fun _ z => nomatch z
  · exact c.uns h fun _ z => nomatch z
  · obtain ⟨q, h1, h2⟩ := h
    exact ⟨q, c.uns h1 (fun _ z => nomatch z), c.uns h2 (fun _ z => nomatch z)⟩
section
variable {X : Cx} {CT : Addr} {cs : Nat → Addr}
theorem pe_errVX {Ls : Nat → Lm} {RT : Nat → XK → TE} {n kt kA : Nat} {ta : TA} {e : Expr} {es : List Expr} {p pos : Pos} (hfn : ∀ x, X.fn x = true) (F : DefN X.prog X.w X.K X.mg X.base C8.CX0 kA "_law_error_of" ["_law_call"] (spErrX X.K CT cs (Thk X.prog X.w X.K X.mg X.base (kt + 1)))) (hr0 : Room kA X.A)
    (hL : ∀ j, j < n → LmS X.N X.env.scope (Ls j).scope) (hB : ∀ j, j < n → LmB (Ls j) (X.env.qual ++ "<lambda>"))
    (hbody : ∀ j, j < n → ∀ (A : Around) (outer : List PySem.Env) (s : Shared) (H : Hp) (E : XK) (f c' : Addr), Room kt (A.deeper (lamEnv X (Ls j).scope s.heap.objs.size f c')) → PE (lamCx X A outer s H E (Ls j).scope f c') (Ls j).body (RT j E))
    (hvis : ∀ x c, X.env.cells.lookup x = some c → X.env.scope.names.lookup x = some .cell)
    (ha : PA X (e :: es) ta) (hg : Gl X "_law_error_of" := by rfl) (he : starEach (e :: es) X.env = (false, eval e X.env) :: starEach es X.env := by rfl) (hpl : (backTo pos (starEach es X.env)).any (·.1) = false := by rfl) :
    PE X (.Call (.Name "_law_error_of" p) (e :: es) [] pos) (tErrVX X.K CT cs (fun j H f => j < n ∧ Rdy (X.env.qual ++ "<lambda>") (Ls j) (cloFrom X.env.cells (Ls j).scope.names []) H f) RT ta) := by
  obtain ⟨g, fd, hm, hk, F, hb⟩ := F.ex
  have hr := hr0
  refine ⟨fun pins s σ H Q I h => ?_⟩
  refine wpAny_Call_Name_kw (ld_glob I hg hm ?_ (by decide))
  refine PySem.W.callWith_K (h₀ := X.base) I.ok.mod.kin hk (thn (ha.run pos pins s σ H _ I h) fun us s1 ⟨vs, H1, I1, r, q⟩ => ⟨I1.kIn, ?_⟩) he hpl
  obtain ⟨j, f, rfl, ⟨hj, hR⟩, hA⟩ := q
  obtain ⟨ce, hce⟩ : ∃ ce, ce = celL X s1.heap := ⟨_, rfl⟩
  have iC : ∀ b o, ce.lookup b = some o → s1.heap.get? b = some o ∧ ∃ y, X.env.cells.lookup y = some b := fun b o e => by
    rw [hce] at e; exact celL_get e
  have u0 : Unc ce H1 := fun b o e => by
    obtain ⟨_, y, hy⟩ := iC b o e
    exact I1.freeC y b hy
  have young : ∀ b o, ce.lookup b = some o → X.s_0.heap.get? b = none := fun b o e => by
    obtain ⟨_, y, hy⟩ := iC b o e
    exact Heap.get?_none_of_le (I1.ok.cab y b (hfn y) hy)
  have up : ∀ {b : Addr} {v : HO}, H1 b = some v → froz ce H1 b = some v := fun {b v} q => by
    cases z : ce.lookup b with
    | none => rw [froz_out z]; exact q
    | some o => rw [u0 b o z] at q; cases q
  have VV : CelV X ce σ := by
    refine ⟨fun y c e => ?_, fun i x v c e1 e2 e3 => ?_⟩
    · obtain ⟨v, o, ho, hd⟩ := I1.cell y c e
      exact ⟨o, v, by rw [hce]; exact celL_has e ho, hd⟩
    · obtain ⟨m, _, hl⟩ := I1.loc
      obtain ⟨u, r, lk⟩ := hl i x v e1 e2 (.inr (.inl (hvis x c e3)))
      rcases lk with ⟨k, _⟩ | ⟨_, c', e4, o, ho, hd⟩
      · have k' : X.env.scope.names.lookup x = some .local := k
        rw [hvis x c e3] at k'; cases k'
      · rw [e3] at e4
        cases e4
        exact ⟨o, u, by rw [hce]; exact celL_has e3 ho, hd, r⟩
  have nst : ∀ b ∈ frs X.stack, ce.lookup b = none := fun b hb => by
    cases z : ce.lookup b with
    | none => rfl
    | some o =>
      obtain ⟨_, y, hy⟩ := iC b o z
      rcases List.mem_cons.mp (I1.stkSub b hb) with q | q
      · exact absurd q (I1.cne y b hy)
      · obtain ⟨_, o', ho, _⟩ := I1.ok.funs.mem q
        rw [young b o z] at ho; cases ho
  have E1 := I1.env0
  have E2 : Env0 X.prog X.w X.K X.mg X.base X.A X.stack s1 (froz ce H1) := by
    refine ⟨E1.frames, E1.mod, fun b o q => ⟨(E1.bs b o q).1, ?_⟩, E1.bsz, E1.funs, fun b hb => ?_, hok_froz E1.hok fun b o e => ⟨u0 b o e, (iC b o e).1⟩, E1.bare⟩
    · have n : ce.lookup b = none := by
        cases z : ce.lookup b with
        | none => rfl
        | some o' => have := young b o' z; rw [(I1.ok.bs b o q).1] at this; cases this
      rw [froz_out n]; exact (E1.bs b o q).2
    · rw [froz_out (nst b hb)]; exact E1.frf b hb
  have hsp : spErrX X.K CT cs (Thk X.prog X.w X.K X.mg X.base (kt + 1)) [.ref f] (froz ce H1) (fun v H' => Q v (unfz ce H')) C8.E0 := by
    have R' := hR.ext (fun b o q _ => up q : ExtN H1 (froz ce H1))
    obtain ⟨dV, c', r1, r2, r3⟩ := id R'
    refine ⟨f, c', _, tlLm X.K (X.env.qual ++ "<lambda>") (Ls j) (cloFrom X.env.cells (Ls j).scope.names []) ce σ (RT j) f, rfl, ⟨lm_run I1.ok I1.len (hL _ hj) VV (hB _ hj) (hbody _ hj), fun E H Q q => ?_⟩, r2, ⟨R', froz_cl, ?_⟩⟩
    · obtain ⟨dV, c', q1, _⟩ := q.1
      exact ⟨_, _, _, _, _, q1⟩
    rw [unfz_froz u0]
    refine hA _ _ fun i es d H'' nE xE hv hk2 => fun un => ?_
    have u1 : Ex H'' (froz ce H'') := fun y o q => by
      cases z : ce.lookup y with
      | none => rw [froz_out z]; exact q
      | some o' => rw [un y o' z] at q; cases q
    refine ⟨i, es, rfl, hv.ex u1, nE, xE, fun H3 pt e3 hpt => ?_⟩
    have up3 : ∀ {y : Addr} {o : HO}, H'' y = some o → H3 y = some o := fun {y o} q => e3 y o (u1 y o q)
    have c3 : Clls ce H3 := (froz_cl (cs := ce) (G := H'')).ex e3
    have x3 : Ex H'' (unfz ce H3) := fun y o q => by
      cases z : ce.lookup y with
      | none => rw [unfz_out z]; exact up3 q
      | some o' => rw [un y o' z] at q; cases q
    exact hk2 _ pt x3 (told_unfz c3 hpt)
  have hl : (us ++ []).length = ["_law_call"].length := by rw [List.append_nil, ← r.length]; rfl
  have hb' := hb s1 us I1.kIn hl
  rw [List.append_nil] at hb'
  refine wpAny_call (codeAny_mono (F.run X.A X.stack s1 _ ⟨us, []⟩ us _ _ C8.E0 hr E2 hb' r hsp) fun r s' hq => ?_)
  cases r with
  | error e => exact (show False from hq).elim
  | ok fl =>
    cases fl with
    | ret u =>
      obtain ⟨v, H', os, bare, un, hok, r, q⟩ := hq
      obtain ⟨un', cl⟩ := un_unfz u0 (fun b o e => (iC b o e).1) nst hok un
      exact I1.after ⟨v, unfz ce H', os, bare, un', cl.hok hok, r, q⟩
    | next => exact False.elim hq
    | brk => exact False.elim hq
    | cont => exact False.elim hq
end
end TkL


namespace TkL
open PySem PySem.Spec PySem.Calls PyProof.Rows L2 Tk LamX
def muL (RDY : Nat → Hp → Addr → Prop) (j : Nat) : Mu := ⟨fun K C dO H F p fp => StR C RDY ∧ RDY j F p ∧ fp = [], fun {K C dO H H' F F' p fp} h keep e => by
  obtain ⟨S, h2, rfl⟩ := h
  exact ⟨S, S _ _ _ _ (fun x o q _ => e x o q) h2, rfl⟩⟩
def PrL (RDY : Nat → Hp → Addr → Prop) (K : PySem.W.Frag) (C : Addr) (dO : Option Addr) (F : Hp) : List Addr → List (Nat × D) → Prop
  | [], [] => True
  | t :: ts, z :: l => (∃ f v, F t = some (.tup [.ref f, v]) ∧ RDY z.1 F f ∧ Rep K C dO F v z.2) ∧ PrL RDY K C dO F ts l
  | _, _ => False
section
variable {RDY : Nat → Hp → Addr → Prop} {K : PySem.W.Frag} {C : Addr} {dO : Option Addr} {F F' : Hp}
theorem PrL.ex (S : StR C RDY) (e : Ex F F') : ∀ {ts : List Addr} {l : List (Nat × D)}, PrL RDY K C dO F ts l → PrL RDY K C dO F' ts l
  | [], [], _ => trivial
  | [], _ :: _, h => h.elim
  | _ :: _, [], h => h.elim
  | t :: ts, z :: l, ⟨⟨f, v, h1, h2, h3⟩, h⟩ => ⟨⟨f, v, e _ _ h1, S _ _ _ _ (fun x o q _ => e x o q) h2, h3.ex e⟩, PrL.ex S e h⟩
theorem PrL.len : ∀ {ts : List Addr} {l : List (Nat × D)}, PrL RDY K C dO F ts l → ts.length = l.length
  | [], [], _ => rfl
  | [], _ :: _, h => h.elim
  | _ :: _, [], h => h.elim
  | _ :: _, _ :: _, ⟨_, h⟩ => congrArg (· + 1) h.len
theorem PrL.app : ∀ {ts us : List Addr} {l m : List (Nat × D)}, PrL RDY K C dO F ts l → PrL RDY K C dO F us m → PrL RDY K C dO F (ts ++ us) (l ++ m)
  | [], _, [], _, _, h => h
  | [], _, _ :: _, _, h, _ => h.elim
  | _ :: _, _, [], _, h, _ => h.elim
  | _ :: _, _, _ :: _, _, ⟨a, h⟩, g => ⟨a, PrL.app h g⟩
theorem PrL.get : ∀ {ts : List Addr} {l : List (Nat × D)} {i : Nat} {z : Nat × D}, PrL RDY K C dO F ts l → l[i]? = some z → ∃ t f v, ts[i]? = some t ∧ F t = some (.tup [.ref f, v]) ∧ RDY z.1 F f ∧ Rep K C dO F v z.2
  | [], [], _, _, _, e => by simp at e
  | [], _ :: _, _, _, h, _ => h.elim
  | _ :: _, [], _, _, h, _ => h.elim
  | t :: ts, z :: l, 0, _, ⟨⟨f, v, h1, h2, h3⟩, _⟩, e => by
    obtain rfl := Option.some.inj e
    exact ⟨t, f, v, rfl, h1, h2, h3⟩
  | t :: ts, z :: l, i + 1, y, ⟨_, h⟩, e => by
    obtain ⟨t', f, v, a, b⟩ := PrL.get (i := i) (z := y) h (by simpa using e)
    exact ⟨t', f, v, by simpa using a, b⟩
end
def muTP (RDY : Nat → Hp → Addr → Prop) (l : List (Nat × D)) : Mu := ⟨fun K C dO H F p fp => StR C RDY ∧ (∃ ts : List Addr, H p = some (.lst (ts.map V.ref)) ∧ PrL RDY K C dO F ts l) ∧ fp = [p], fun {K C dO H H' F F' p fp} h keep e => by
  obtain ⟨S, ⟨ts, h1, h2⟩, rfl⟩ := h
  exact ⟨S, ⟨ts, by rw [keep p (by simp)]; exact h1, h2.ex S e⟩, rfl⟩⟩
def SimPs (B : Bs) (RDY : Nat → Hp → Addr → Prop) (A : TA) (l : List (Nat × D)) : Prop := ∀ H F σ ρ (Q : List V → Hp → Prop), RelF B H F σ ρ →
  (∀ H' F' (ts : List Addr), Ex F F' → Kx B σ H F ρ H' F' ρ → RelF B H' F' σ ρ → PrL RDY B.K B.C B.dO F' ts l → Q (ts.map V.ref) H') → A σ H Q
section
variable {B : Bs} {σ : L2.St} {H F H1 F1 H' F' : Hp} {ρ ρ1 : Env} {RDY : Nat → Hp → Addr → Prop} {l : List (Nat × D)} {A : TA}
theorem sPs_nil : SimPs B RDY tNil [] := fun H F σ ρ Q R k => k H F [] (Ex.refl _) Kx.refl R trivial
theorem sPs_cons {j : Nat} {te : TE} {ue : UE} {d : D} (hT : B.T ≠ []) (S : StR B.C RDY) (he : SimE B te ue) (hd : ∀ ρ (P : D → Env → Prop), P d ρ → ue ρ P) (hA : SimPs B RDY A l) : SimPs B RDY (tCons (tTup (tCons (tLm B.T (RDY j)) (tCons te tNil))) A) ((j, d) :: l) := fun H F σ ρ Q R k => by
  refine ⟨R.tb, fun f H1 eN T1 hR hf => ?_⟩
  obtain ⟨F1, ex1, R1, fz, keep⟩ := R.lam3 hT eN T1
  have k1 := Kx.lam R eN fz
  have hRF : RDY j F1 f := S _ _ _ _ keep hR
  refine he H1 F1 σ ρ _ (fun d' ρ' => d' = d ∧ ρ' = ρ) R1 (hd ρ _ ⟨rfl, rfl⟩) fun H2 F2 v d' ρ' e2 k2 R2 r2 p2 => ?_
  obtain ⟨rfl, rfl⟩ := p2
  refine ⟨sz_of (by simp), fun t ht => ?_⟩
  have s := St1.growE R2.toRelH (Ex.new (o := .tup [.ref f, v]) ht)
  have R3 := s.rel _ _ R2
  refine hA _ _ σ _ _ R3 fun H4 F4 ts e4 k4 R4 hp => ?_
  refine k H4 F4 (t :: ts) (ex1.trans (e2.trans (s.ex.trans e4))) (k1.trans ((k2.x R2.toRelH).trans (((s.kq R2).x (s.relH R2.toRelH)).trans k4))) R4 ⟨⟨f, v, e4 _ _ (growF_at ht), S _ _ _ _ (fun x o q _ => e4 _ _ (s.ex _ _ (e2 _ _ q))) hRF, (r2.ex s.ex).ex e4⟩, hp⟩
def uAsgTP (RDY : Nat → Hp → Addr → Prop) (l : List (Nat × D)) (i : Nat) : US := fun P ρ => l.length ≤ 1000 ∧ ∀ fp, P.nx (ρ.set i (.mu (muTP RDY l) fp))
theorem sS_asgTP {i : Nat} (S : StR B.C RDY) (h : SimPs B RDY A l) : SimS B (tAsg (tLst A) (gName i)) (uAsgTP RDY l i) := fun H F σ ρ D1 P R hu k =>
  h H F σ ρ _ R fun H1 F1 ts e1 k1 R1 hp => by
    refine ⟨by rw [List.length_map, hp.len]; exact sz_of (by have := hu.1; omega), fun p hp1 => ?_⟩
    obtain ⟨s, hF⟩ := new_own (vs := ts.map V.ref) R1.toRelH hp1
    have R2 := s.rel _ _ R1
    refine k.nx _ F1 _ _ (e1.trans (Ex.refl _)) (R2.setM (M := muTP RDY l) (fp := [p]) ⟨S, ⟨ts, upd_same, hp⟩, rfl⟩ fun x hx => ?_) (hu.2 [p])
    rw [List.mem_singleton.mp hx]
    exact ⟨R1.toRelH.n0 hp1, hF, R1.fresh R1 hp1 fun _ _ h => h, _, upd_same, fun _ z => nomatch z⟩
def uCatTP (RDY : Nat → Hp → Addr → Prop) (l : List (Nat × D)) (i : Nat) : US := fun P ρ => ∃ l0 fp, ρ[i]? = some (.mu (muTP RDY l0) fp) ∧ l0.length + l.length ≤ 1000 ∧ ∀ fp, P.nx (ρ.set i (.mu (muTP RDY (l0 ++ l)) fp))
theorem sS_catTP {i : Nat} (S : StR B.C RDY) (h : SimPs B RDY A l) : SimS B (tAsg (tOp rCat (tVar i) (tLst A)) (gName i)) (uCatTP RDY l i) := fun H F σ ρ D1 P R hu k => by
  obtain ⟨l0, fp0, e0, hz, hu⟩ := hu
  obtain ⟨p0, a0, at0, ok0⟩ := R.mu i _ _ e0
  refine ⟨_, a0, h H F σ ρ _ R fun H1 F1 ts e1 k1 R1 hp => ?_⟩
  obtain ⟨p1, a1, ⟨_, ⟨t0, h1, h2⟩, rfl⟩, ok1⟩ := R1.mu i _ _ e0
  rw [a0] at a1; cases a1
  have n1 : (t0.map V.ref).length + (ts.map V.ref).length ≤ 1000 := by rw [List.length_map, List.length_map, h2.len, hp.len]; exact hz
  refine ⟨sz_of (by omega), fun p hp1 => ?_⟩
  have np : p0 ≠ p := fun z => by rw [z, hp1] at h1; cases h1
  refine ⟨p0, p, _, _, rfl, rfl, by rw [upd_ne np]; exact h1, upd_same, sz_of (by omega), fun q hq => ?_⟩
  have hq1 : H1 q = none := by
    by_cases c : q = p
    · rw [c, upd_same] at hq; cases hq
    · rw [upd_ne c] at hq; exact hq
  obtain ⟨s1, hF1⟩ := new_own (vs := ts.map V.ref) R1.toRelH hp1
  have R2 := s1.rel _ _ R1
  obtain ⟨s2, hF2⟩ := new_own (vs := (t0.map V.ref) ++ ts.map V.ref) R2.toRelH hq
  have R3 := s2.rel _ _ R2
  refine k.nx _ F1 _ _ e1 (R3.setM (M := muTP RDY (l0 ++ l)) (fp := [q]) ⟨S, ⟨t0 ++ ts, by rw [upd_same, List.map_append], h2.app hp⟩, rfl⟩ fun x hx => ?_) (hu [q])
  rw [List.mem_singleton.mp hx]
  exact ⟨R2.toRelH.n0 hq, hF2, R2.fresh R2 hq fun _ _ h => h, _, upd_same, fun _ z => nomatch z⟩
def FORP (RDY : Nat → Hp → Addr → Prop) (i a b : Nat) (L : List (Nat × D)) (fp : List Addr) (ub : US) (P : UEnds) : List (Nat × D) → Env → Prop
  | [], ρ => P.nx ρ
  | z :: l, ρ => let N : Env → Prop := fun ρ' => ρ'[i]? = some (.mu (muTP RDY L) fp) ∧ FORP RDY i a b L fp ub P l ρ'
    ub { P with nx := N, ct := N, bk := P.nx } ((ρ.set a (.mu (muL RDY z.1) [])).set b (.val z.2))
def uForTP (RDY : Nat → Hp → Addr → Prop) (i a b : Nat) (ub : US) : US := fun P ρ => ∃ L fp, ρ[i]? = some (.mu (muTP RDY L) fp) ∧ FORP RDY i a b L fp ub P L ρ
theorem sS_forTP {i a b : Nat} {tb : TS} {ub : US} (hb : SimS B tb ub) : SimS B (tFor (iList B.K (tVar i)) (gTup B.K 2 (gCons (gName a) (gCons (gName b) gNil))) tb) (uForTP RDY i a b ub) := fun H F σ ρ D1 P R hu k => by
  obtain ⟨L, fp, e0, hu⟩ := hu
  obtain ⟨p, a0, ⟨S, ⟨ts, h1, h2⟩, rfl⟩, _⟩ := R.mu i _ _ e0
  refine ⟨_, a0, p, rfl, ⟨_, lOf h1⟩, fun n m σ2 H2 => m = L.length - n ∧ n ≤ L.length ∧ ∃ F2 ρ2, Ex F F2 ∧ RelF B H2 F2 σ2 ρ2 ∧ ρ2[i]? = some (.mu (muTP RDY L) [p]) ∧ FORP RDY i a b L [p] ub P (L.drop n) ρ2, ⟨_, rfl, Nat.zero_le _, F, ρ, Ex.refl _, R, e0, hu⟩, ?_⟩
  rintro n m σ2 H2 ⟨rfl, hle, F2, ρ2, e2, R2, hi2, hf2⟩
  obtain ⟨p', a2, ⟨_, ⟨t2, g1, g2⟩, hp'⟩, _⟩ := R2.mu i _ _ hi2
  obtain rfl : p = p' := List.head_eq_of_cons_eq hp'
  by_cases hlt : n < L.length
  · obtain ⟨t, f, v, ht, ht1, ht2, ht3⟩ := g2.get (List.getElem?_eq_getElem hlt)
    rw [List.drop_eq_getElem_cons hlt] at hf2
    refine .inr ⟨⟨_, .ref t, lOf g1, by rw [List.getElem?_map, ht]; rfl⟩, fun σ' H' => ∃ F3 ρ3, Ex F F3 ∧ RelF B H' F3 σ' ρ3 ∧ ρ3[i]? = some (.mu (muTP RDY L) [p]) ∧ FORP RDY i a b L [p] ub P (L.drop (n + 1)) ρ3, fun σ' H' hh => ⟨_, by omega, rfl, hlt, hh⟩, fun x H' y => ?_⟩
    obtain ⟨rfl, hy⟩ := y
    have hx := hy _ (lOf g1)
    rw [List.getElem?_map, ht] at hx
    obtain rfl : V.ref t = x := Option.some.inj hx
    refine ⟨t, _, rfl, R2.fh.sqT (tOf ht1), rfl, .ref f, [v], rfl, v, [], rfl, rfl, ?_⟩
    have R3 := (R2.setM (i := a) (M := muL RDY (L[n]).1) (p := f) (fp := []) ⟨S, ht2, rfl⟩ (fun x hx => nomatch hx)).setV (i := b) ht3
    refine hb H' F2 _ _ _ _ R3 hf2 ⟨fun H5 F5 σ5 ρ5 e5 R5 p5 => ?_, (k.up e2).rt, fun H5 F5 σ5 ρ5 e5 R5 p5 => ?_, fun H5 F5 σ5 ρ5 e5 R5 p5 => ?_⟩
    · exact ⟨F5, ρ5, e2.trans e5, R5, p5.1, p5.2⟩
    · exact k.nx H5 F5 σ5 ρ5 (e2.trans e5) R5 p5
    · exact ⟨F5, ρ5, e2.trans e5, R5, p5.1, p5.2⟩
  · have e : n = L.length := by omega
    subst e
    rw [List.drop_length] at hf2
    exact .inl ⟨⟨_, lOf g1, by rw [List.length_map, g2.len]; exact Nat.le_refl _⟩, k.nx H2 F2 σ2 ρ2 e2 R2 hf2⟩
end
def uTellV (js JS : List Nat) (RDY : Nat → Hp → Addr → Prop) (UT : Nat → UCE) (a : Nat) : UE := fun ρ P => ∃ j fp, ρ[a]? = some (.mu (muL RDY j) fp) ∧ j ∈ js ∧ UT j ρ (fun _ _ => False) fun i es ρ' => i ∈ JS ∧ P (tellD i es) ρ'
theorem sX_tellV {B : Bs} {CT : Addr} {cs : Nat → Addr} {RDY : Nat → Hp → Addr → Prop} {RT : Nat → XK → TE} {UT : Nat → UCE} {a : Nat} {js JS : List Nat} (S : ∀ j ∈ js, SimRE B cs (RT j) (UT j)) (n : ∀ j ∈ JS, ErrX B.K cs j ∧ PySem.W.exmOne B.K (.ref (cs j)) (.ref CT) = some true) :
    SimX B (tErrVX B.K CT cs RDY RT (tCons (tVar a) tNil)) (uTellV js JS RDY UT a) := fun H F σ ρ Q P R hu k => by
  obtain ⟨j, fp, e0, hj, hu⟩ := hu
  obtain ⟨f, a0, ⟨St, h2, _⟩, _⟩ := R.mu a _ _ e0
  refine ⟨.ref f, a0, j, f, rfl, St _ _ _ _ (fun x o q _ => R.fh x o q) h2, fun E2 N2 kE => ?_⟩
  refine S j hj H F σ ρ E2 N2 _ _ R hu (fun _ _ _ _ _ _ _ _ _ z => z.elim) fun H2 F2 jn es c d ρ2 e2 k2 R2 xx p2 => ?_
  obtain ⟨hjn, p2⟩ := p2
  obtain ⟨rfl, vs, xv, r⟩ := xx
  refine kE jn vs d H2 (n jn hjn).1 (n jn hjn).2 (xv.ex R2.fh) fun H3 q e3 tl => ?_
  have s3 := St1.growE R2.toRelH e3
  have dd : ∀ d, B.dO = some d → DAt d H3 := fun d h => ((s3.relH R2.toRelH).dd d h).1
  have rt := told_rep (s3.relH R2.toRelH) (r.ex s3.ex) tl fun q ws hq => growF_get R2.toRelH e3.kpo dd hq nmut_tup
  exact k H3 _ _ _ ρ2 (e2.trans s3.ex) (k2.trans ((s3.kq R2).x (s3.relH R2.toRelH))) (s3.rel _ _ R2) rt p2
theorem sS_parX {B : Bs} {A : TA} {U : UA} {i j : Nat} (h : SimXP B A U) : SimS B (tPar i j A) (uPar i j U) := fun H F σ ρ D1 P R hu k =>
  h H F σ ρ _ _ R hu fun H1 F1 vs ds ρ1 e1 k1 R1 r1 p1 => by
    split at p1
    · cases r1 with | cons a r1 => cases r1 with | cons b r1 => cases r1; exact ⟨_, _, rfl, k.nx H1 F1 _ _ e1 ((R1.setV a).setV b) p1⟩
    · exact p1.elim
end TkL


namespace TkL
open PySem PySem.Spec PySem.Calls PyProof.Rows L2 Tk
def qA (k : Int) : RV := if 3 ≤ k then ⟨[], k - 3, 7, [3, 6]⟩ else ⟨[], 0, 7, [k, k + 3]⟩
def qB (k : Int) : RV := ⟨[k, k + 1], k + 2, 4, [1]⟩
theorem qB_has (k t : Int) : (qB k).has t = if t < k + 2 then decide (t = k ∨ t = k + 1) else decide ((t - (k + 2)) % 4 = 1) := by
  show qhas [k, k + 1] (k + 2) 4 [1] t = _
  unfold qhas
  by_cases h : t < k + 2
  · rw [if_pos h, if_pos h]; congr 1; simp only [List.mem_cons, List.not_mem_nil, or_false]
  · rw [if_neg h, if_neg h]; congr 1; simp only [List.mem_cons, List.not_mem_nil, or_false]
theorem qB_rb {k : Int} (k0 : 0 ≤ k) (k1 : k ≤ 98) : RB (qB k) := by
  refine ⟨⟨⟨?_, ?_, by show (0 : Int) ≤ k + 2; omega, by show (1 : Int) ≤ 4; decide, by show List.Pairwise _ [1]; exact List.pairwise_singleton _ _, fun x hx => ?_⟩, fun n b hn hp => ?_, fun b hb hp => ?_⟩, by show k + 2 ≤ 200000; omega, by show (4 : Int) ≤ 20000; decide⟩
  · show List.Pairwise _ [k, k + 1]
    exact .cons (fun y hy => by rw [List.mem_singleton.mp hy]; omega) (List.pairwise_singleton _ _)
  · intro x hx
    have hx : x ∈ [k, k + 1] := hx
    show 0 ≤ x ∧ x < k + 2
    simp only [List.mem_cons, List.not_mem_nil, or_false] at hx
    rcases hx with rfl | rfl <;> omega
  · have hx : x ∈ ([1] : List Int) := hx
    rw [List.mem_singleton.mp hx]
    show (0 : Int) ≤ 1 ∧ (1 : Int) < 4
    decide
  · show (4 : Int) ≤ n
    rcases Int.lt_or_le n 4 with c | c
    · exfalso
      obtain ⟨m, hm⟩ : ∃ m : Int, m = (if b < 0 then 0 else b) := ⟨_, rfl⟩
      have m0 : 0 ≤ m := by rw [hm]; split <;> omega
      have mb : b ≤ m := by rw [hm]; split <;> omega
      have h := hp (k + 2 + 4 * m + 1) (by omega)
      rw [qB_has, qB_has, if_neg (by omega), if_neg (by omega), decide_eq_true (by omega)] at h
      have a := of_decide_eq_true h.symm
      omega
    · exact c
  · show k + 2 ≤ b
    rcases Int.lt_or_le b (k + 2) with c | c
    · exfalso
      have h := hp (k + 1) (by omega)
      rw [show (qB k).len = 4 from rfl, qB_has, qB_has, if_pos (by omega), if_neg (by omega), decide_eq_true (.inr rfl)] at h
      have a := of_decide_eq_true h.symm
      omega
    · exact c
theorem qB_plan {k : Int} (k0 : 0 ≤ k) (t : Int) : planHas k [1, 2] [4] t = (qB k).has t := by
  rw [qB_has]
  show qhas [k, k + 1] (k + 3) 4 [0] t = _
  unfold qhas
  by_cases h : t < k + 2
  · rw [if_pos (by omega), if_pos h]; congr 1; simp only [List.mem_cons, List.not_mem_nil, or_false]
  · rw [if_neg h]
    by_cases h2 : t < k + 3
    · rw [if_pos h2]
      have e : t = k + 2 := by omega
      rw [decide_eq_false (by simp only [List.mem_cons, List.not_mem_nil, or_false]; omega), decide_eq_false (by omega)]
    · rw [if_neg h2]
      congr 1
      simp only [List.mem_cons, List.not_mem_nil, or_false]
      apply propext
      omega
theorem qA_has {k : Int} (k0 : 0 ≤ k) (t : Int) : (qA k).has t = if t < k then false else decide ((t - k) % 7 = 0 ∨ (t - k) % 7 = 3) := by
  unfold qA
  by_cases hk : 3 ≤ k
  · rw [if_pos hk]
    show qhas [] (k - 3) 7 [3, 6] t = _
    unfold qhas
    by_cases h : t < k - 3
    · rw [if_pos h, if_pos (by omega)]; rfl
    · rw [if_neg h]
      by_cases h2 : t < k
      · rw [if_pos h2]
        exact decide_eq_false (by simp only [List.mem_cons, List.not_mem_nil, or_false]; omega)
      · rw [if_neg h2]
        congr 1
        simp only [List.mem_cons, List.not_mem_nil, or_false]
        apply propext
        omega
  · rw [if_neg hk]
    show qhas [] 0 7 [k, k + 3] t = _
    unfold qhas
    by_cases h : t < 0
    · rw [if_pos h, if_pos (by omega)]; rfl
    · rw [if_neg h]
      by_cases h2 : t < k
      · rw [if_pos h2]
        exact decide_eq_false (by simp only [List.mem_cons, List.not_mem_nil, or_false]; omega)
      · rw [if_neg h2]
        congr 1
        simp only [List.mem_cons, List.not_mem_nil, or_false]
        apply propext
        omega
theorem qA_len {k : Int} : (qA k).len = 7 := by unfold qA; split <;> rfl
theorem qA_beg {k : Int} : (qA k).beg = if 3 ≤ k then k - 3 else 0 := by unfold qA; split <;> rfl
theorem qA_early {k : Int} : (qA k).early = [] := by unfold qA; split <;> rfl
theorem qA_offs {k : Int} : (qA k).offs = if 3 ≤ k then [3, 6] else [k, k + 3] := by unfold qA; split <;> rfl
theorem qA_rb {k : Int} (k0 : 0 ≤ k) (k1 : k ≤ 98) : RB (qA k) := by
  refine ⟨⟨⟨by rw [qA_early]; exact .nil, by rw [qA_early]; exact (fun x hx => nomatch hx), by rw [qA_beg]; split <;> omega, by rw [qA_len]; decide, ?_, fun x hx => ?_⟩, fun n b hn hp => ?_, fun b hb hp => ?_⟩, by rw [qA_beg]; split <;> omega, by rw [qA_len]; decide⟩
  · rw [qA_offs]
    split
    · decide
    · exact .cons (fun y hy => by rw [List.mem_singleton.mp hy]; omega) (List.pairwise_singleton _ _)
  · rw [qA_offs] at hx
    rw [qA_len]
    split at hx
    · simp only [List.mem_cons, List.not_mem_nil, or_false] at hx
      rcases hx with rfl | rfl <;> omega
    · simp only [List.mem_cons, List.not_mem_nil, or_false] at hx
      rcases hx with rfl | rfl <;> omega
  · rw [qA_len]
    rcases Int.lt_or_le n 7 with c | c
    · exfalso
      obtain ⟨m, hm⟩ : ∃ m : Int, m = (if b < 0 then 0 else b) := ⟨_, rfl⟩
      have m0 : 0 ≤ m := by rw [hm]; split <;> omega
      have mb : b ≤ m := by rw [hm]; split <;> omega
      have h := hp (k + 7 * m) (by omega)
      have h' := hp (k + 7 * m + 3) (by omega)
      rw [qA_has k0, qA_has k0, if_neg (by omega), if_neg (by omega), decide_eq_true (by omega)] at h
      rw [qA_has k0, qA_has k0, if_neg (by omega), if_neg (by omega), decide_eq_true (by omega)] at h'
      have a := of_decide_eq_true h.symm
      have b := of_decide_eq_true h'.symm
      omega
    · exact c
  · rw [qA_beg]
    split
    · rename_i hk
      rcases Int.lt_or_le b (k - 3) with c | c
      · exfalso
        have h := hp (k - 4) (by omega)
        rw [qA_len, qA_has k0, qA_has k0, if_pos (by omega), if_neg (by omega), decide_eq_true (by omega)] at h
        cases h
      · exact c
    · exact hb
theorem qA_plan {k : Int} (k0 : 0 ≤ k) (t : Int) : planHas k [] [3, 4] t = (qA k).has t := by
  rw [qA_has k0]
  have e : planHas k [] [3, 4] t = qhas [] (k + 0) 7 [0, 3] t := rfl
  rw [e, Int.add_zero]
  unfold qhas
  by_cases h : t < k
  · rw [if_pos h, if_pos h]; rfl
  · rw [if_neg h, if_neg h]
    congr 1
    simp only [List.mem_cons, List.not_mem_nil, or_false]
theorem row_A {k : Int} (k0 : 0 ≤ k) (k1 : k ≤ 98) {r : RV} (rb : RB r) (h : ∀ t, r.has t = planHas k [] [3, 4] t) : r = qA k := rb.c.ext (qA_rb k0 k1).c fun t _ => by rw [h, qA_plan k0]
theorem row_B {k : Int} (k0 : 0 ≤ k) (k1 : k ≤ 98) {r : RV} (rb : RB r) (h : ∀ t, r.has t = planHas k [1, 2] [4] t) : r = qB k := rb.c.ext (qB_rb k0 k1).c fun t _ => by rw [h, qB_plan k0]
theorem txA : ∀ i < 99, rowText (qA (i : Nat)) = toString ((i : Nat) : Int) ++ (" | 3 4" : Str) := by decide +kernel
theorem txB : ∀ i < 99, rowText (qB (i : Nat)) = toString ((i : Nat) : Int) ++ (" 1 2 | 4" : Str) := by decide +kernel
end TkL



namespace TkL
open PySem PySem.Spec PySem.Calls PyProof.Rows L2 Tk LamX
section
variable (K : PySem.W.Frag) (C : Addr) (CJ : Addr) (CR : Addr) (T0 : Addr) (CT : Addr) (cs : Nat → Addr) (T : List (Addr × Str)) (RDY : Nat → Hp → Addr → Prop)
def rt08 : Nat → XK → TE := fun j => match j with
  | 0 => fun E => (tCMethK C 0 (starKSp 2 (.ref T0) (spE K C cs gOfl)) E (tC (.ref C)) (tCons (tPer 3) (tCons (tC (.int 61)) tNil)) tNil)
  | 1 => fun E => (tCMethK C 0 (starKSp 2 (.ref T0) (spE K C cs gOfl)) E (tC (.ref C)) (tCons (tPer 3) tNil) tNil)
  | 2 => fun E => (tCMethK C 1 (starKSp 2 (.ref T0) (spE K C cs gOfl)) E (tC (.ref C)) (tCons (tPer 3) (tCons (tC (.int 3)) tNil)) (tCons (tC (.int 5)) tNil))
  | 3 => fun E => (tCMethK C 0 (starKSp 2 (.ref T0) (spE K C cs gOfl)) E (tC (.ref C)) (tCons (tC (.int 5)) tNil) tNil)
  | 4 => fun E => (tCMethK C 0 (starKSp 2 (.ref T0) (spE K C cs gOfl)) E (tC (.ref C)) (tCons (tC (.int 5)) (tCons (tPer 5) (tCons (tPer 5) tNil))) tNil)
  | 5 => fun E => (tCMethK C 1 (starKSp 2 (.ref T0) (spE K C cs gOfl)) E (tC (.ref C)) (tCons (tC (.int 5)) (tCons (tC (.int 1)) (tCons (tC (.int 60)) (tCons (tPer 5) (tCons (tC (.int 3)) tNil))))) (tCons (tTup (tCons (tC (.int 0)) tNil)) tNil))
  | 6 => fun E => (tCMethK C 0 (starKSp 2 (.ref T0) (spE K C cs gOfl)) E (tC (.ref C)) (tCons (tC (.int 0)) (tCons (tC (.int 1)) (tCons (tC (.int 2)) (tCons (tC (.int 3)) (tCons (tC (.int 4)) (tCons (tC (.int 5)) (tCons (tC (.int 6)) (tCons (tC (.int 7)) (tCons (tC (.int 8)) (tCons (tC (.int 9)) (tCons (tC (.int 10)) (tCons (tC (.int 11)) (tCons (tC (.int 12)) (tCons (tPer 5) tNil)))))))))))))) tNil)
  | 7 => fun E => (tCMethK C 0 (starKSp 2 (.ref T0) (spE K C cs gOfl)) E (tC (.ref C)) (tCons (tC (.int 0)) (tCons (tC (.int 1)) (tCons (tC (.int 2)) (tCons (tC (.int 3)) (tCons (tC (.int 4)) (tCons (tC (.int 5)) (tCons (tC (.int 6)) (tCons (tC (.int 7)) (tCons (tC (.int 8)) (tCons (tC (.int 9)) (tCons (tC (.int 10)) (tCons (tC (.int 11)) (tCons (tC (.int 12)) (tCons (tC (.int 13)) tNil)))))))))))))) tNil)
  | 8 => fun E => (tCMethK C 1 (starKSp 2 (.ref T0) (spE K C cs gOfl)) E (tC (.ref C)) (tCons (tC (.int 5)) (tCons (tC (.int 1)) tNil)) (tCons (tTup (tCons (tPer 5) (tCons (tC (.int 0)) tNil))) tNil))
  | 9 => fun E => (tCMethK C 1 (starKSp 2 (.ref T0) (spE K C cs gOfl)) E (tC (.ref C)) (tCons (tC (.int 5)) (tCons (tC (.int 1)) tNil)) (tCons (tTup (tCons (tC (.int 1)) (tCons (tC (.int 60)) (tCons (tPer 5) tNil)))) tNil))
  | 10 => fun E => (tCMethK C 1 (starKSp 2 (.ref T0) (spE K C cs gOfl)) E (tC (.ref C)) (tCons (tC (.int 5)) (tCons (tC (.int 1)) tNil)) (tCons (tOp (rRepA K) (tTup (tCons (tC (.int 9)) tNil)) (tC (.int 13))) tNil))
  | 11 => fun E => (tCMethK C 1 (starKSp 2 (.ref T0) (spE K C cs gOfl)) E (tC (.ref C)) (tCons (tC (.int 5)) (tCons (tC (.int 1)) tNil)) (tCons (tOp (rIxL K) (tLst (tCons (tLst (tCons (tC (.int 1)) tNil)) (tCons (tC (.int 5)) (tCons (tC .non) (tCons (tC (.str "1")) (tCons (tC (.bl true)) tNil)))))) (tOp (rI (fun _ j => 0 < j) fun i j => V.int (i % j)) (tVar 2) (tC (.int 5)))) tNil))
  | _ => fun _ _ _ _ => False
def tUPlawR : TS := (tSeq (tAsg (tOp (rI CMul fun i j => V.int (i * j)) (tDef (spU K C upBelow) E0 (tCons (tPer 1) (tCons (tC (.int 2)) tNil))) (tDef (spU K C upBelow) E0 (tCons (tPer 1) (tCons (tC (.int 99)) tNil)))) (gName 2))
    (tSeq (tAsg (tOp (rIxL K) (tLst (tCons (tOp (rI0 fun i j => V.int (i - j)) (tOp (rI0 fun i j => V.int (i - j)) (tC (.int 0)) (tC (.int 1))) (tVar 2)) (tCons (tOp (rI0 fun i j => V.int (i + j)) (tC (.int 10001)) (tVar 2)) (tCons (tC .non) (tCons (tC (.bl true)) (tCons (tC (.str "1")) (tCons (tTup (tCons (tC (.int 1)) tNil)) tNil))))))) (tDef (spU K C upBelow) E0 (tCons (tPer 1) (tCons (tC (.int 6)) tNil)))) (gName 3))
    (tSeq (tAsg (tLst (tCons (tLm T (RDY 0)) (tCons (tLm T (RDY 1)) (tCons (tLm T (RDY 2)) tNil)))) (gName 4))
    (tSeq (tIfS (tNot (tB (tAllCX K CT cs RDY (rt08 K C T0 cs) (tCons (tPer 4) (tCons (tTup (tCons (tC (.str "row")) (tCons (tTup (tCons (tC (.str "start")) (tCons (tC (.int 0)) tNil))) tNil))) tNil))))) (tRet (tC (.bl false))) tNext)
    (tSeq (tAsg (tOp (rIxL K) (tLst (tCons (tC (.int 0)) (tCons (tOp (rI0 fun i j => V.int (i - j)) (tC (.int 0)) (tVar 2)) (tCons (tOp (rI0 fun i j => V.int (i + j)) (tC (.int 61)) (tVar 2)) (tCons (tC .non) (tCons (tC (.bl true)) (tCons (tC (.str "1")) tNil))))))) (tDef (spU K C upBelow) E0 (tCons (tPer 1) (tCons (tC (.int 6)) tNil)))) (gName 5))
    (tSeq (tAsg (tLst (tCons (tTup (tCons (tLm T (RDY 3)) (tCons (tTup (tCons (tC (.str "laps")) (tCons (tC (.int 0)) tNil))) tNil))) (tCons (tTup (tCons (tLm T (RDY 4)) (tCons (tTup (tCons (tC (.str "laps")) (tCons (tC (.int 0)) tNil))) tNil))) tNil))) (gName 6))
    (tSeq (tAsg (tOp rCat (tVar 6) (tLst (tCons (tTup (tCons (tLm T (RDY 5)) (tCons (tTup (tCons (tC (.str "laps")) (tCons (tC (.int 2)) tNil))) tNil))) tNil))) (gName 6))
    (tSeq (tAsg (tOp rCat (tVar 6) (tLst (tCons (tTup (tCons (tLm T (RDY 6)) (tCons (tTup (tCons (tC (.str "laps")) (tCons (tC (.int 12)) tNil))) tNil))) tNil))) (gName 6))
    (tSeq (tAsg (tOp rCat (tVar 6) (tLst (tCons (tTup (tCons (tLm T (RDY 7)) (tCons (tTup (tCons (tC (.str "laps")) (tCons (tC (.int 12)) tNil))) tNil))) tNil))) (gName 6))
    (tSeq (tAsg (tOp rCat (tVar 6) (tLst (tCons (tTup (tCons (tLm T (RDY 8)) (tCons (tTup (tCons (tC (.str "first")) (tCons (tC (.int 0)) tNil))) tNil))) tNil))) (gName 6))
    (tSeq (tAsg (tOp rCat (tVar 6) (tLst (tCons (tTup (tCons (tLm T (RDY 9)) (tCons (tTup (tCons (tC (.str "first")) (tCons (tC (.int 2)) tNil))) tNil))) tNil))) (gName 6))
    (tSeq (tAsg (tOp rCat (tVar 6) (tLst (tCons (tTup (tCons (tLm T (RDY 10)) (tCons (tTup (tCons (tC (.str "first")) (tCons (tC (.int 12)) tNil))) tNil))) tNil))) (gName 6))
    (tSeq (tAsg (tOp rCat (tVar 6) (tLst (tCons (tTup (tCons (tLm T (RDY 11)) (tCons (tTup (tCons (tC (.str "first")) (tCons (tC (.int 0)) tNil))) tNil))) tNil))) (gName 6))
    (tSeq (tFor (iList K (tPer 6)) (gTup K 2 (gCons (gName 7) (gCons (gName 8) gNil))) (tIfS (tTest (tOp (rNeD K) (tErrVX K CT cs RDY (rt08 K C T0 cs) (tCons (tPer 7) tNil)) (tTup (tCons (tC (.str "row")) (tCons (tPer 8) tNil))))) (tRet (tC (.bl false))) tNext))
    (tSeq (tAsg (tCMethK C 1 (starKSp 2 (.ref T0) (spE K C cs gOfl)) E0 (tC (.ref C)) (tCons (tC (.int 10000)) (tCons (tC (.int 60)) (tCons (tC (.int 60)) (tCons (tC (.int 60)) (tCons (tC (.int 60)) (tCons (tC (.int 60)) (tCons (tC (.int 60)) (tCons (tC (.int 60)) (tCons (tC (.int 60)) (tCons (tC (.int 60)) (tCons (tC (.int 60)) (tCons (tC (.int 60)) (tCons (tC (.int 60)) tNil))))))))))))) (tCons (tOp (rRepA K) (tTup (tCons (tC (.int 60)) tNil)) (tC (.int 12))) tNil)) (gName 9))
    (tSeq (tIfS (tOr (tTest (tOp (rOwnNe C (spU K C upEq) E0) (tVar 9) (ClX.tCMeth C (spU K C upParse) E0 (tC (.ref C)) (tCons (tC (.str "10000 | 60")) tNil)))) (tTest (tOp (rNeD K) (tTup (tCons (ClX.tCVal K (tC (.ref C)) "MAX_START") (tCons (ClX.tCVal K (tC (.ref C)) "MAX_LAP") (tCons (ClX.tCVal K (tC (.ref C)) "MAX_LAPS") tNil)))) (tTup (tCons (tC (.int 10000)) (tCons (tC (.int 60)) (tCons (tC (.int 12)) tNil))))))) (tRet (tC (.bl false))) tNext)
    (tSeq (tPar 10 11 (tCons (tCMethK C 0 (starKSp 2 (.ref T0) (spE K C cs gOfl)) E0 (tC (.ref C)) (tCons (tPer 2) (tCons (tC (.int 3)) (tCons (tC (.int 4)) tNil))) tNil) (tCons (tCMethK C 1 (starKSp 2 (.ref T0) (spE K C cs gOfl)) E0 (tC (.ref C)) (tCons (tPer 2) (tCons (tC (.int 4)) tNil)) (tCons (tTup (tCons (tC (.int 1)) (tCons (tC (.int 2)) tNil))) tNil)) tNil)))
    (tRet (tDef (spU K C upEqual) E0 (tCons (tLst (tCons (tPrp C (spU K C upText) E0 (tVar 10)) (tCons (tPrp C (spU K C upText) E0 (tVar 11)) tNil))) (tCons (tLst (tCons (tOp rAddS (tCB kStr (tCons (tVar 2) tNil)) (tC (.str " | 3 4"))) (tCons (tOp rAddS (tCB kStr (tCons (tVar 2) tNil)) (tC (.str " 1 2 | 4"))) tNil))) tNil)))))))))))))))))))))
def tUPlaw : TS := tSeq (tAsg (tDef (spRandom K) E0 (tCons (tVar 0) (tCons (tC (.int 8)) tNil))) (gName 1)) (tUPlawR K C T0 CT cs T RDY)
end
def ut08 : Nat → UCE := fun j => match j with
  | 0 => (uCK 0 gOfl (uCons (uPer 3) (uCons (uC (.int 61)) uNil)) uNil)
  | 1 => (uCK 0 gOfl (uCons (uPer 3) uNil) uNil)
  | 2 => (uCK 1 gOfl (uCons (uPer 3) (uCons (uC (.int 3)) uNil)) (uCons (uC (.int 5)) uNil))
  | 3 => (uCK 0 gOfl (uCons (uC (.int 5)) uNil) uNil)
  | 4 => (uCK 0 gOfl (uCons (uC (.int 5)) (uCons (uPer 5) (uCons (uPer 5) uNil))) uNil)
  | 5 => (uCK 1 gOfl (uCons (uC (.int 5)) (uCons (uC (.int 1)) (uCons (uC (.int 60)) (uCons (uPer 5) (uCons (uC (.int 3)) uNil))))) (uCons (uTup (uCons (uC (.int 0)) uNil)) uNil))
  | 6 => (uCK 0 gOfl (uCons (uC (.int 0)) (uCons (uC (.int 1)) (uCons (uC (.int 2)) (uCons (uC (.int 3)) (uCons (uC (.int 4)) (uCons (uC (.int 5)) (uCons (uC (.int 6)) (uCons (uC (.int 7)) (uCons (uC (.int 8)) (uCons (uC (.int 9)) (uCons (uC (.int 10)) (uCons (uC (.int 11)) (uCons (uC (.int 12)) (uCons (uPer 5) uNil)))))))))))))) uNil)
  | 7 => (uCK 0 gOfl (uCons (uC (.int 0)) (uCons (uC (.int 1)) (uCons (uC (.int 2)) (uCons (uC (.int 3)) (uCons (uC (.int 4)) (uCons (uC (.int 5)) (uCons (uC (.int 6)) (uCons (uC (.int 7)) (uCons (uC (.int 8)) (uCons (uC (.int 9)) (uCons (uC (.int 10)) (uCons (uC (.int 11)) (uCons (uC (.int 12)) (uCons (uC (.int 13)) uNil)))))))))))))) uNil)
  | 8 => (uCK 1 gOfl (uCons (uC (.int 5)) (uCons (uC (.int 1)) uNil)) (uCons (uTup (uCons (uPer 5) (uCons (uC (.int 0)) uNil))) uNil))
  | 9 => (uCK 1 gOfl (uCons (uC (.int 5)) (uCons (uC (.int 1)) uNil)) (uCons (uTup (uCons (uC (.int 1)) (uCons (uC (.int 60)) (uCons (uPer 5) uNil)))) uNil))
  | 10 => (uCK 1 gOfl (uCons (uC (.int 5)) (uCons (uC (.int 1)) uNil)) (uCons (uOp qRepA (uTup (uCons (uC (.int 9)) uNil)) (uC (.int 13))) uNil))
  | 11 => (uCK 1 gOfl (uCons (uC (.int 5)) (uCons (uC (.int 1)) uNil)) (uCons (uOp qIxL (uLst (uCons (uLst (uCons (uC (.int 1)) uNil)) (uCons (uC (.int 5)) (uCons (uC .non) (uCons (uC (.str "1")) (uCons (uC (.bl true)) uNil)))))) (uOp (qI (fun _ j => 0 < j) fun i j => D.int (i % j)) (uVar 2) (uC (.int 5)))) uNil))
  | _ => fun _ _ _ => False
theorem ut08_0 : ut08 0 = (uCK 0 gOfl (uCons (uPer 3) (uCons (uC (.int 61)) uNil)) uNil) := rfl
theorem ut08_1 : ut08 1 = (uCK 0 gOfl (uCons (uPer 3) uNil) uNil) := rfl
theorem ut08_2 : ut08 2 = (uCK 1 gOfl (uCons (uPer 3) (uCons (uC (.int 3)) uNil)) (uCons (uC (.int 5)) uNil)) := rfl
theorem ut08_3 : ut08 3 = (uCK 0 gOfl (uCons (uC (.int 5)) uNil) uNil) := rfl
theorem ut08_4 : ut08 4 = (uCK 0 gOfl (uCons (uC (.int 5)) (uCons (uPer 5) (uCons (uPer 5) uNil))) uNil) := rfl
theorem ut08_5 : ut08 5 = (uCK 1 gOfl (uCons (uC (.int 5)) (uCons (uC (.int 1)) (uCons (uC (.int 60)) (uCons (uPer 5) (uCons (uC (.int 3)) uNil))))) (uCons (uTup (uCons (uC (.int 0)) uNil)) uNil)) := rfl
theorem ut08_6 : ut08 6 = (uCK 0 gOfl (uCons (uC (.int 0)) (uCons (uC (.int 1)) (uCons (uC (.int 2)) (uCons (uC (.int 3)) (uCons (uC (.int 4)) (uCons (uC (.int 5)) (uCons (uC (.int 6)) (uCons (uC (.int 7)) (uCons (uC (.int 8)) (uCons (uC (.int 9)) (uCons (uC (.int 10)) (uCons (uC (.int 11)) (uCons (uC (.int 12)) (uCons (uPer 5) uNil)))))))))))))) uNil) := rfl
theorem ut08_7 : ut08 7 = (uCK 0 gOfl (uCons (uC (.int 0)) (uCons (uC (.int 1)) (uCons (uC (.int 2)) (uCons (uC (.int 3)) (uCons (uC (.int 4)) (uCons (uC (.int 5)) (uCons (uC (.int 6)) (uCons (uC (.int 7)) (uCons (uC (.int 8)) (uCons (uC (.int 9)) (uCons (uC (.int 10)) (uCons (uC (.int 11)) (uCons (uC (.int 12)) (uCons (uC (.int 13)) uNil)))))))))))))) uNil) := rfl
theorem ut08_8 : ut08 8 = (uCK 1 gOfl (uCons (uC (.int 5)) (uCons (uC (.int 1)) uNil)) (uCons (uTup (uCons (uPer 5) (uCons (uC (.int 0)) uNil))) uNil)) := rfl
theorem ut08_9 : ut08 9 = (uCK 1 gOfl (uCons (uC (.int 5)) (uCons (uC (.int 1)) uNil)) (uCons (uTup (uCons (uC (.int 1)) (uCons (uC (.int 60)) (uCons (uPer 5) uNil)))) uNil)) := rfl
theorem ut08_10 : ut08 10 = (uCK 1 gOfl (uCons (uC (.int 5)) (uCons (uC (.int 1)) uNil)) (uCons (uOp qRepA (uTup (uCons (uC (.int 9)) uNil)) (uC (.int 13))) uNil)) := rfl
theorem ut08_11 : ut08 11 = (uCK 1 gOfl (uCons (uC (.int 5)) (uCons (uC (.int 1)) uNil)) (uCons (uOp qIxL (uLst (uCons (uLst (uCons (uC (.int 1)) uNil)) (uCons (uC (.int 5)) (uCons (uC .non) (uCons (uC (.str "1")) (uCons (uC (.bl true)) uNil)))))) (uOp (qI (fun _ j => 0 < j) fun i j => D.int (i % j)) (uVar 2) (uC (.int 5)))) uNil)) := rfl
def uPlawR (RDY : Nat → Hp → Addr → Prop) : US := (uSeq (uAsg (uOp (qI CMul fun i j => D.int (i * j)) (uDef upBelow (uCons (uPer 1) (uCons (uC (.int 2)) uNil))) (uDef upBelow (uCons (uPer 1) (uCons (uC (.int 99)) uNil)))) (uName 2))
    (uSeq (uAsg (uOp qIxL (uLst (uCons (uOp (qI0 fun i j => D.int (i - j)) (uOp (qI0 fun i j => D.int (i - j)) (uC (.int 0)) (uC (.int 1))) (uVar 2)) (uCons (uOp (qI0 fun i j => D.int (i + j)) (uC (.int 10001)) (uVar 2)) (uCons (uC .non) (uCons (uC (.bl true)) (uCons (uC (.str "1")) (uCons (uTup (uCons (uC (.int 1)) uNil)) uNil))))))) (uDef upBelow (uCons (uPer 1) (uCons (uC (.int 6)) uNil)))) (uName 3))
    (uSeq (uAsgT RDY [0, 1, 2] 4)
    (uSeq (uIfS (uNot (uB (uAllJX [0, 1, 2] [8] RDY ut08 4 (uTup (uCons (uC (.str "row")) (uCons (uTup (uCons (uC (.str "start")) (uCons (uC (.int 0)) uNil))) uNil)))))) (uRet (uC (.bl false))) uNext)
    (uSeq (uAsg (uOp qIxL (uLst (uCons (uC (.int 0)) (uCons (uOp (qI0 fun i j => D.int (i - j)) (uC (.int 0)) (uVar 2)) (uCons (uOp (qI0 fun i j => D.int (i + j)) (uC (.int 61)) (uVar 2)) (uCons (uC .non) (uCons (uC (.bl true)) (uCons (uC (.str "1")) uNil))))))) (uDef upBelow (uCons (uPer 1) (uCons (uC (.int 6)) uNil)))) (uName 5))
    (uSeq (uAsgTP RDY [(3, .tup [.str "laps", .int 0]), (4, .tup [.str "laps", .int 0])] 6)
    (uSeq (uCatTP RDY [(5, .tup [.str "laps", .int 2])] 6)
    (uSeq (uCatTP RDY [(6, .tup [.str "laps", .int 12])] 6)
    (uSeq (uCatTP RDY [(7, .tup [.str "laps", .int 12])] 6)
    (uSeq (uCatTP RDY [(8, .tup [.str "first", .int 0])] 6)
    (uSeq (uCatTP RDY [(9, .tup [.str "first", .int 2])] 6)
    (uSeq (uCatTP RDY [(10, .tup [.str "first", .int 12])] 6)
    (uSeq (uCatTP RDY [(11, .tup [.str "first", .int 0])] 6)
    (uSeq (uForTP RDY 6 7 8 (uIfS (uB (uOp qNeD (uTellV [3, 4, 5, 6, 7, 8, 9, 10, 11] [8] RDY ut08 7) (uTup (uCons (uC (.str "row")) (uCons (uPer 8) uNil))))) (uRet (uC (.bl false))) uNext))
    (uSeq (uAsg (uTry0 (uCK 1 gOfl (uCons (uC (.int 10000)) (uCons (uC (.int 60)) (uCons (uC (.int 60)) (uCons (uC (.int 60)) (uCons (uC (.int 60)) (uCons (uC (.int 60)) (uCons (uC (.int 60)) (uCons (uC (.int 60)) (uCons (uC (.int 60)) (uCons (uC (.int 60)) (uCons (uC (.int 60)) (uCons (uC (.int 60)) (uCons (uC (.int 60)) uNil))))))))))))) (uCons (uOp qRepA (uTup (uCons (uC (.int 60)) uNil)) (uC (.int 12))) uNil))) (uName 9))
    (uSeq (uIfS (uOr (uB (uOp (qUpN upEq) (uVar 9) (uCM upParse (uC .cls) (uCons (uC (.str "10000 | 60")) uNil)))) (uB (uOp qNeD (uTup (uCons (uCVal 10000 (uC .cls)) (uCons (uCVal 60 (uC .cls)) (uCons (uCVal 12 (uC .cls)) uNil)))) (uTup (uCons (uC (.int 10000)) (uCons (uC (.int 60)) (uCons (uC (.int 12)) uNil))))))) (uRet (uC (.bl false))) uNext)
    (uSeq (uPar 10 11 (uCons (uTry0 (uCK 0 gOfl (uCons (uPer 2) (uCons (uC (.int 3)) (uCons (uC (.int 4)) uNil))) uNil)) (uCons (uTry0 (uCK 1 gOfl (uCons (uPer 2) (uCons (uC (.int 4)) uNil)) (uCons (uTup (uCons (uC (.int 1)) (uCons (uC (.int 2)) uNil))) uNil))) uNil)))
    (uRet (uDef upEqual (uCons (uLst (uCons (uPrp upText (uVar 10)) (uCons (uPrp upText (uVar 11)) uNil))) (uCons (uLst (uCons (uOp qAddS (uCB gStr (uCons (uVar 2) uNil)) (uC (.str " | 3 4"))) (uCons (uOp qAddS (uCB gStr (uCons (uVar 2) uNil)) (uC (.str " 1 2 | 4"))) uNil))) uNil)))))))))))))))))))))
theorem simPlawR {K : PySem.W.Frag} {C T0 CT : Addr} {cs : Nat → Addr} {T : List (Addr × Str)} {RDY : Nat → Hp → Addr → Prop} (TN : TupN K T0) (KK : RowK K C) (hT : T ≠ []) (hS : StR C RDY) (nX8 : ErrX K cs 8 ∧ PySem.W.exmOne K (.ref (cs 8)) (.ref CT) = some true) (B : Bs) (hK : B.K = K) (hC : B.C = C) (hT0 : B.T = T) : SimS B (tUPlawR K C T0 CT cs T RDY) (uPlawR RDY) := by
  subst hK hC hT0
  exact (sS_seq (sS_asg (sE_op (s2_I (fun _ _ _ => .int)) (SimE.w (sE_def (sP_cons sE_per (sP_cons sE_int sP_nil)))) (SimE.w (sE_def (sP_cons sE_per (sP_cons sE_int sP_nil))))) sG_name)
    (sS_seq (sS_asg (sE_op s2_ixL (SimE.w (SimN.e (sN_lst (sP_cons (sE_op (s2_I0 (fun _ _ _ => .int)) (SimE.w (sE_op (s2_I0 (fun _ _ _ => .int)) (SimE.w sE_int) (SimE.w sE_int))) sW_var) (sP_cons (sE_op (s2_I0 (fun _ _ _ => .int)) (SimE.w sE_int) sW_var) (sP_cons sE_non (sP_cons sE_bl (sP_cons sE_str (sP_cons (sE_tup (sP_cons sE_int sP_nil)) sP_nil))))))))) (SimE.w (sE_def (sP_cons sE_per (sP_cons sE_int sP_nil))))) sG_name)
    (sS_seq (sS_asgT hS (sLm_cons hT hS (sLm_cons hT hS (sLm_cons hT hS sLm_nil))))
    (sS_seq (sS_ifX (sXT_not (sXT_B (sX_allrX (js := [0, 1, 2]) (JS := [8]) (sE_tup (sP_cons sE_str (sP_cons (sE_tup (sP_cons sE_str (sP_cons sE_int sP_nil))) sP_nil))) (sJX_cons (sRE_cmK TN (SimE.w sE_cls) (sXP_cons (SimE.x sE_per) (sXP_cons (SimE.x sE_int) sXP_nil)) sXP_nil) (sJX_cons (sRE_cmK TN (SimE.w sE_cls) (sXP_cons (SimE.x sE_per) sXP_nil) sXP_nil) (sJX_cons (sRE_cmK TN (SimE.w sE_cls) (sXP_cons (SimE.x sE_per) (sXP_cons (SimE.x sE_int) sXP_nil)) (sXP_cons (SimE.x sE_int) sXP_nil)) sJX_nil))) (nx_cons nX8 nx_nil)))) (sS_ret sE_bl) sS_next)
    (sS_seq (sS_asg (sE_op s2_ixL (SimE.w (SimN.e (sN_lst (sP_cons sE_int (sP_cons (sE_op (s2_I0 (fun _ _ _ => .int)) (SimE.w sE_int) sW_var) (sP_cons (sE_op (s2_I0 (fun _ _ _ => .int)) (SimE.w sE_int) sW_var) (sP_cons sE_non (sP_cons sE_bl (sP_cons sE_str sP_nil))))))))) (SimE.w (sE_def (sP_cons sE_per (sP_cons sE_int sP_nil))))) sG_name)
    (sS_seq (sS_asgTP hS (sPs_cons hT hS (sE_tup (sP_cons sE_str (sP_cons sE_int sP_nil))) (fun _ _ h => ⟨by simp, h⟩) (sPs_cons hT hS (sE_tup (sP_cons sE_str (sP_cons sE_int sP_nil))) (fun _ _ h => ⟨by simp, h⟩) sPs_nil)))
    (sS_seq (sS_catTP hS (sPs_cons hT hS (sE_tup (sP_cons sE_str (sP_cons sE_int sP_nil))) (fun _ _ h => ⟨by simp, h⟩) sPs_nil))
    (sS_seq (sS_catTP hS (sPs_cons hT hS (sE_tup (sP_cons sE_str (sP_cons sE_int sP_nil))) (fun _ _ h => ⟨by simp, h⟩) sPs_nil))
    (sS_seq (sS_catTP hS (sPs_cons hT hS (sE_tup (sP_cons sE_str (sP_cons sE_int sP_nil))) (fun _ _ h => ⟨by simp, h⟩) sPs_nil))
    (sS_seq (sS_catTP hS (sPs_cons hT hS (sE_tup (sP_cons sE_str (sP_cons sE_int sP_nil))) (fun _ _ h => ⟨by simp, h⟩) sPs_nil))
    (sS_seq (sS_catTP hS (sPs_cons hT hS (sE_tup (sP_cons sE_str (sP_cons sE_int sP_nil))) (fun _ _ h => ⟨by simp, h⟩) sPs_nil))
    (sS_seq (sS_catTP hS (sPs_cons hT hS (sE_tup (sP_cons sE_str (sP_cons sE_int sP_nil))) (fun _ _ h => ⟨by simp, h⟩) sPs_nil))
    (sS_seq (sS_catTP hS (sPs_cons hT hS (sE_tup (sP_cons sE_str (sP_cons sE_int sP_nil))) (fun _ _ h => ⟨by simp, h⟩) sPs_nil))
    (sS_seq (sS_forTP (sS_ifX (sXT_test (sX_op s2_NeD (sX_tellV (js := [3, 4, 5, 6, 7, 8, 9, 10, 11]) (JS := [8]) (sJX_cons (sRE_cmK TN (SimE.w sE_cls) (sXP_cons (SimE.x sE_int) sXP_nil) sXP_nil) (sJX_cons (sRE_cmK TN (SimE.w sE_cls) (sXP_cons (SimE.x sE_int) (sXP_cons (SimE.x sE_per) (sXP_cons (SimE.x sE_per) sXP_nil))) sXP_nil) (sJX_cons (sRE_cmK TN (SimE.w sE_cls) (sXP_cons (SimE.x sE_int) (sXP_cons (SimE.x sE_int) (sXP_cons (SimE.x sE_int) (sXP_cons (SimE.x sE_per) (sXP_cons (SimE.x sE_int) sXP_nil))))) (sXP_cons (SimE.x (sE_tup (sP_cons sE_int sP_nil))) sXP_nil)) (sJX_cons (sRE_cmK TN (SimE.w sE_cls) (sXP_cons (SimE.x sE_int) (sXP_cons (SimE.x sE_int) (sXP_cons (SimE.x sE_int) (sXP_cons (SimE.x sE_int) (sXP_cons (SimE.x sE_int) (sXP_cons (SimE.x sE_int) (sXP_cons (SimE.x sE_int) (sXP_cons (SimE.x sE_int) (sXP_cons (SimE.x sE_int) (sXP_cons (SimE.x sE_int) (sXP_cons (SimE.x sE_int) (sXP_cons (SimE.x sE_int) (sXP_cons (SimE.x sE_int) (sXP_cons (SimE.x sE_per) sXP_nil)))))))))))))) sXP_nil) (sJX_cons (sRE_cmK TN (SimE.w sE_cls) (sXP_cons (SimE.x sE_int) (sXP_cons (SimE.x sE_int) (sXP_cons (SimE.x sE_int) (sXP_cons (SimE.x sE_int) (sXP_cons (SimE.x sE_int) (sXP_cons (SimE.x sE_int) (sXP_cons (SimE.x sE_int) (sXP_cons (SimE.x sE_int) (sXP_cons (SimE.x sE_int) (sXP_cons (SimE.x sE_int) (sXP_cons (SimE.x sE_int) (sXP_cons (SimE.x sE_int) (sXP_cons (SimE.x sE_int) (sXP_cons (SimE.x sE_int) sXP_nil)))))))))))))) sXP_nil) (sJX_cons (sRE_cmK TN (SimE.w sE_cls) (sXP_cons (SimE.x sE_int) (sXP_cons (SimE.x sE_int) sXP_nil)) (sXP_cons (SimE.x (sE_tup (sP_cons sE_per (sP_cons sE_int sP_nil)))) sXP_nil)) (sJX_cons (sRE_cmK TN (SimE.w sE_cls) (sXP_cons (SimE.x sE_int) (sXP_cons (SimE.x sE_int) sXP_nil)) (sXP_cons (SimE.x (sE_tup (sP_cons sE_int (sP_cons sE_int (sP_cons sE_per sP_nil))))) sXP_nil)) (sJX_cons (sRE_cmK TN (SimE.w sE_cls) (sXP_cons (SimE.x sE_int) (sXP_cons (SimE.x sE_int) sXP_nil)) (sXP_cons (SimE.x (sE_op s2_RepA (SimE.w (sE_tup (sP_cons sE_int sP_nil))) (SimE.w sE_int))) sXP_nil)) (sJX_cons (sRE_cmK TN (SimE.w sE_cls) (sXP_cons (SimE.x sE_int) (sXP_cons (SimE.x sE_int) sXP_nil)) (sXP_cons (SimE.x (sE_op s2_ixL (SimE.w (SimN.e (sN_lst (sP_cons (SimN.e (sN_lst (sP_cons sE_int sP_nil))) (sP_cons sE_int (sP_cons sE_non (sP_cons sE_str (sP_cons sE_bl sP_nil)))))))) (SimE.w (sE_op (s2_I (fun _ _ _ => .int)) sW_var (SimE.w sE_int))))) sXP_nil)) sJX_nil))))))))) (nx_cons nX8 nx_nil)) (SimE.x (sE_tup (sP_cons sE_str (sP_cons sE_per sP_nil)))))) (sS_ret sE_bl) sS_next))
    (sS_seq (sS_asgX (sX_try0 (cs := cs) (sRE_cmK TN (SimE.w sE_cls) (sXP_cons (SimE.x sE_int) (sXP_cons (SimE.x sE_int) (sXP_cons (SimE.x sE_int) (sXP_cons (SimE.x sE_int) (sXP_cons (SimE.x sE_int) (sXP_cons (SimE.x sE_int) (sXP_cons (SimE.x sE_int) (sXP_cons (SimE.x sE_int) (sXP_cons (SimE.x sE_int) (sXP_cons (SimE.x sE_int) (sXP_cons (SimE.x sE_int) (sXP_cons (SimE.x sE_int) (sXP_cons (SimE.x sE_int) sXP_nil))))))))))))) (sXP_cons (SimE.x (sE_op s2_RepA (SimE.w (sE_tup (sP_cons sE_int sP_nil))) (SimE.w sE_int))) sXP_nil))) sG_name)
    (sS_seq (sS_if (sT_or (sT_test (SimE.w (sE_op s2_ownNe sW_var (SimE.w (sE_cm (SimE.w sE_cls) (sP_cons sE_str sP_nil)))))) (sT_test (SimE.w (sE_op s2_NeD (SimE.w (sE_tup (sP_cons (sE_cval KK.MAX_START (SimE.w sE_cls)) (sP_cons (sE_cval KK.MAX_LAP (SimE.w sE_cls)) (sP_cons (sE_cval KK.MAX_LAPS (SimE.w sE_cls)) sP_nil))))) (SimE.w (sE_tup (sP_cons sE_int (sP_cons sE_int (sP_cons sE_int sP_nil))))))))) (sS_ret sE_bl) sS_next)
    (sS_seq (sS_parX (sXP_cons (sX_try0 (cs := cs) (sRE_cmK TN (SimE.w sE_cls) (sXP_cons (SimE.x sE_per) (sXP_cons (SimE.x sE_int) (sXP_cons (SimE.x sE_int) sXP_nil))) sXP_nil)) (sXP_cons (sX_try0 (cs := cs) (sRE_cmK TN (SimE.w sE_cls) (sXP_cons (SimE.x sE_per) (sXP_cons (SimE.x sE_int) sXP_nil)) (sXP_cons (SimE.x (sE_tup (sP_cons sE_int (sP_cons sE_int sP_nil)))) sXP_nil))) sXP_nil)))
    (sS_ret (sE_def (sP_cons (SimN.e (sN_lst (sP_cons (sE_prp sW_var) (sP_cons (sE_prp sW_var) sP_nil)))) (sP_cons (SimN.e (sN_lst (sP_cons (sE_op s2_AddS (SimE.w (sE_cb sk_str (sA_cons sW_var sA_nil))) (SimE.w sE_str)) (sP_cons (sE_op s2_AddS (SimE.w (sE_cb sk_str (sA_cons sW_var sA_nil))) (SimE.w sE_str)) sP_nil)))) sP_nil)))))))))))))))))))))
end TkL


namespace TkL
open PySem PySem.Spec PySem.Calls PyProof.Rows L2 Tk LamX
section
variable {RDY : Nat → Hp → Addr → Prop} {i a b : Nat} {L : List (Nat × D)} {l : List (Nat × D)} {P : UEnds} {ρ : Env} {js JS : List Nat} {UT : Nat → UCE} {Z : D → Env → Prop} {ub : US} {fp : List Addr} {z : Nat × D}
theorem e_asgTP : uAsgTP RDY l i P ρ = (l.length ≤ 1000 ∧ ∀ fp, P.nx (ρ.set i (.mu (muTP RDY l) fp))) := rfl
theorem e_catTP : uCatTP RDY l i P ρ = ∃ l0 fp, ρ[i]? = some (.mu (muTP RDY l0) fp) ∧ l0.length + l.length ≤ 1000 ∧ ∀ fp, P.nx (ρ.set i (.mu (muTP RDY (l0 ++ l)) fp)) := rfl
theorem e_tellV : uTellV js JS RDY UT a ρ Z = ∃ j fp, ρ[a]? = some (.mu (muL RDY j) fp) ∧ j ∈ js ∧ UT j ρ (fun _ _ => False) fun i es ρ' => i ∈ JS ∧ Z (tellD i es) ρ' := rfl
end
theorem ne_row {z : Str} {i : Int} {Z : D → Prop} (h : (z = "start" ∨ z = "laps" ∨ z = "first") ∧ (i = 0 ∨ i = 2 ∨ i = 12)) (p : Z (.bl false)) : qNeD (tellD 8 [.str z, .int i]) (.tup [.str "row", .tup [.str z, .int i]]) Z := by
  have key : SeqAt.shaped (.tuple [.str "row", .tuple [.str z, .int i]]) = true ∧ PyData.eqv (.tuple [.str "row", .tuple [.str z, .int i]]) (.tuple [.str "row", .tuple [.str z, .int i]]) = true := by
    obtain ⟨rfl | rfl | rfl, rfl | rfl | rfl⟩ := h <;> exact ⟨by decide +kernel, by decide +kernel⟩
  refine ⟨.tuple [.str "row", .tuple [.str z, .int i]], .tuple [.str "row", .tuple [.str z, .int i]], rfl, rfl, key.1, key.1, ?_⟩
  rw [key.2]; exact p
theorem goodI (ns : List Int) (h : ∀ n ∈ ns, 1 ≤ n ∧ n ≤ 60) : ∀ x ∈ iL ns, GoodLap x := fun x hx => by
  unfold iL at hx
  obtain ⟨n, hn, rfl⟩ := List.mem_map.mp hx
  exact h n hn
theorem goodLI (ns : List Int) (h : ∀ n ∈ ns, 1 ≤ n ∧ n ≤ 60) (hl : ns.length ≤ 12) : GoodL (iL ns) := ⟨goodI ns h, by unfold iL; rw [List.length_map]; exact hl⟩
theorem forp_nil {RDY : Nat → Hp → Addr → Prop} {i a b : Nat} {L : List (Nat × D)} {fp : List Addr} {ub : US} {P : UEnds} {ρ : Env} : FORP RDY i a b L fp ub P [] ρ = P.nx ρ := rfl
theorem forp_cons {RDY : Nat → Hp → Addr → Prop} {i a b : Nat} {L l : List (Nat × D)} {z : Nat × D} {fp : List Addr} {ub : US} {P : UEnds} {ρ : Env}
    (h : ub { P with nx := fun ρ' => ρ'[i]? = some (.mu (muTP RDY L) fp) ∧ FORP RDY i a b L fp ub P l ρ', ct := fun ρ' => ρ'[i]? = some (.mu (muTP RDY L) fp) ∧ FORP RDY i a b L fp ub P l ρ', bk := P.nx } ((ρ.set a (.mu (muL RDY z.1) [])).set b (.val z.2))) : FORP RDY i a b L fp ub P (z :: l) ρ := h
def u08_17 (RDY : Nat → Hp → Addr → Prop) : US := (uRet (uDef upEqual (uCons (uLst (uCons (uPrp upText (uVar 10)) (uCons (uPrp upText (uVar 11)) uNil))) (uCons (uLst (uCons (uOp qAddS (uCB gStr (uCons (uVar 2) uNil)) (uC (.str " | 3 4"))) (uCons (uOp qAddS (uCB gStr (uCons (uVar 2) uNil)) (uC (.str " 1 2 | 4"))) uNil))) uNil))))
def u08_16 (RDY : Nat → Hp → Addr → Prop) : US := (uSeq (uPar 10 11 (uCons (uTry0 (uCK 0 gOfl (uCons (uPer 2) (uCons (uC (.int 3)) (uCons (uC (.int 4)) uNil))) uNil)) (uCons (uTry0 (uCK 1 gOfl (uCons (uPer 2) (uCons (uC (.int 4)) uNil)) (uCons (uTup (uCons (uC (.int 1)) (uCons (uC (.int 2)) uNil))) uNil))) uNil))) (u08_17 RDY))
def u08_15 (RDY : Nat → Hp → Addr → Prop) : US := (uSeq (uIfS (uOr (uB (uOp (qUpN upEq) (uVar 9) (uCM upParse (uC .cls) (uCons (uC (.str "10000 | 60")) uNil)))) (uB (uOp qNeD (uTup (uCons (uCVal 10000 (uC .cls)) (uCons (uCVal 60 (uC .cls)) (uCons (uCVal 12 (uC .cls)) uNil)))) (uTup (uCons (uC (.int 10000)) (uCons (uC (.int 60)) (uCons (uC (.int 12)) uNil))))))) (uRet (uC (.bl false))) uNext) (u08_16 RDY))
def u08_14 (RDY : Nat → Hp → Addr → Prop) : US := (uSeq (uAsg (uTry0 (uCK 1 gOfl (uCons (uC (.int 10000)) (uCons (uC (.int 60)) (uCons (uC (.int 60)) (uCons (uC (.int 60)) (uCons (uC (.int 60)) (uCons (uC (.int 60)) (uCons (uC (.int 60)) (uCons (uC (.int 60)) (uCons (uC (.int 60)) (uCons (uC (.int 60)) (uCons (uC (.int 60)) (uCons (uC (.int 60)) (uCons (uC (.int 60)) uNil))))))))))))) (uCons (uOp qRepA (uTup (uCons (uC (.int 60)) uNil)) (uC (.int 12))) uNil))) (uName 9)) (u08_15 RDY))
def u08_13 (RDY : Nat → Hp → Addr → Prop) : US := (uSeq (uForTP RDY 6 7 8 (uIfS (uB (uOp qNeD (uTellV [3, 4, 5, 6, 7, 8, 9, 10, 11] [8] RDY ut08 7) (uTup (uCons (uC (.str "row")) (uCons (uPer 8) uNil))))) (uRet (uC (.bl false))) uNext)) (u08_14 RDY))
def u08_12 (RDY : Nat → Hp → Addr → Prop) : US := (uSeq (uCatTP RDY [(11, .tup [.str "first", .int 0])] 6) (u08_13 RDY))
def u08_11 (RDY : Nat → Hp → Addr → Prop) : US := (uSeq (uCatTP RDY [(10, .tup [.str "first", .int 12])] 6) (u08_12 RDY))
def u08_10 (RDY : Nat → Hp → Addr → Prop) : US := (uSeq (uCatTP RDY [(9, .tup [.str "first", .int 2])] 6) (u08_11 RDY))
def u08_9 (RDY : Nat → Hp → Addr → Prop) : US := (uSeq (uCatTP RDY [(8, .tup [.str "first", .int 0])] 6) (u08_10 RDY))
def u08_8 (RDY : Nat → Hp → Addr → Prop) : US := (uSeq (uCatTP RDY [(7, .tup [.str "laps", .int 12])] 6) (u08_9 RDY))
def u08_7 (RDY : Nat → Hp → Addr → Prop) : US := (uSeq (uCatTP RDY [(6, .tup [.str "laps", .int 12])] 6) (u08_8 RDY))
def u08_6 (RDY : Nat → Hp → Addr → Prop) : US := (uSeq (uCatTP RDY [(5, .tup [.str "laps", .int 2])] 6) (u08_7 RDY))
def u08_5 (RDY : Nat → Hp → Addr → Prop) : US := (uSeq (uAsgTP RDY [(3, .tup [.str "laps", .int 0]), (4, .tup [.str "laps", .int 0])] 6) (u08_6 RDY))
def u08_4 (RDY : Nat → Hp → Addr → Prop) : US := (uSeq (uAsg (uOp qIxL (uLst (uCons (uC (.int 0)) (uCons (uOp (qI0 fun i j => D.int (i - j)) (uC (.int 0)) (uVar 2)) (uCons (uOp (qI0 fun i j => D.int (i + j)) (uC (.int 61)) (uVar 2)) (uCons (uC .non) (uCons (uC (.bl true)) (uCons (uC (.str "1")) uNil))))))) (uDef upBelow (uCons (uPer 1) (uCons (uC (.int 6)) uNil)))) (uName 5)) (u08_5 RDY))
def u08_3 (RDY : Nat → Hp → Addr → Prop) : US := (uSeq (uIfS (uNot (uB (uAllJX [0, 1, 2] [8] RDY ut08 4 (uTup (uCons (uC (.str "row")) (uCons (uTup (uCons (uC (.str "start")) (uCons (uC (.int 0)) uNil))) uNil)))))) (uRet (uC (.bl false))) uNext) (u08_4 RDY))
def u08_2 (RDY : Nat → Hp → Addr → Prop) : US := (uSeq (uAsgT RDY [0, 1, 2] 4) (u08_3 RDY))
def u08_1 (RDY : Nat → Hp → Addr → Prop) : US := (uSeq (uAsg (uOp qIxL (uLst (uCons (uOp (qI0 fun i j => D.int (i - j)) (uOp (qI0 fun i j => D.int (i - j)) (uC (.int 0)) (uC (.int 1))) (uVar 2)) (uCons (uOp (qI0 fun i j => D.int (i + j)) (uC (.int 10001)) (uVar 2)) (uCons (uC .non) (uCons (uC (.bl true)) (uCons (uC (.str "1")) (uCons (uTup (uCons (uC (.int 1)) uNil)) uNil))))))) (uDef upBelow (uCons (uPer 1) (uCons (uC (.int 6)) uNil)))) (uName 3)) (u08_2 RDY))
def u08_0 (RDY : Nat → Hp → Addr → Prop) : US := (uSeq (uAsg (uOp (qI CMul fun i j => D.int (i * j)) (uDef upBelow (uCons (uPer 1) (uCons (uC (.int 2)) uNil))) (uDef upBelow (uCons (uPer 1) (uCons (uC (.int 99)) uNil)))) (uName 2)) (u08_1 RDY))
theorem e08 {RDY : Nat → Hp → Addr → Prop} : uPlawR RDY = u08_0 RDY := rfl

end TkL
local macro_rules | `(tactic| walk_at "ewJ") => do
  let nms (s : String) := (s.splitOn " ").toArray.map fun x => Lean.mkIdent x.toName
  let x1 := nms "TkL.e_ck TkL.e_try0 TkL.e_cval TkL.plK0 TkL.plK1 TkL.e_asgTP TkL.e_catTP TkL.e_asgT TkL.e_tellV TkL.e_isi"
  let t1 ← `(tactic| simp -implicitDefEqProofs only [$[$x1:ident],*])
  `(tactic| (walk_at "ewy"; repeat ($t1:tactic; walk_at "ewy")))
namespace TkL
open PySem PySem.Spec PySem.Calls PyProof.Rows L2 Tk LamX
theorem lap60 (n : Nat) : lapAt (List.replicate 12 60) (List.replicate 12 60) n = lapAt [] [60] n := by
  have h1 : ∀ i < 12, (List.replicate 12 (60 : Int)).getD i 0 = 60 := by decide
  have r : lapAt [] [60] n = 60 := by
    unfold lapAt
    rw [if_neg (by simp), show (n - ([] : List Int).length) % ([60] : List Int).length = 0 from Nat.mod_one _]; rfl
  rw [r]
  unfold lapAt
  split
  · rename_i h
    rw [List.length_replicate] at h
    exact h1 n h
  · exact h1 _ (by rw [List.length_replicate]; exact Nat.mod_lt _ (by decide))
theorem row_C {r s : RV} (rb : RB r) (hr : ∀ t, r.has t = planHas 10000 (List.replicate 12 60) (List.replicate 12 60) t) (sb : RB s) (hs : ∀ t, s.has t = planHas 10000 [] [60] t) : r = s :=
  rb.c.ext sb.c fun t _ => by rw [hr, hs]; exact plan_same (by decide) (by decide) (by decide) (by decide) (by decide) (by decide) lap60 t
theorem lg99 : ∀ i < 99, ((i : Nat) : Int).natAbs.log2 < 1920 := by decide +kernel
theorem ln99 : ∀ i < 99, (Str.ofString (toString ((i : Nat) : Int))).length + (Str.ofString " | 3 4").length ≤ sizeLine := by decide +kernel
theorem ln99' : ∀ i < 99, (Str.ofString (toString ((i : Nat) : Int))).length + (Str.ofString " 1 2 | 4").length ≤ sizeLine := by decide +kernel
theorem tail08 {RDY : Nat → Hp → Addr → Prop} {far : Int} {a3 a4 a5 a6 a7 a8 : Sl} (f0 : 0 ≤ far) (f1 : far ≤ 98) : u08_14 RDY { nx := fun _ => False, rt := fun d => d = .bl true } [.no, .val .src, .val (.int far), a3, a4, a5, a6, a7, a8, .no, .no, .no] := by
  unfold u08_14
  walk_at "ewJ"
  refine ⟨⟨by simp, by decide, by decide, by simp⟩, ?_⟩
  have g12 : GoodL (iL (List.replicate 12 60)) := goodLI _ (by decide) (by decide)
  refine ⟨_, _, _, rfl, .inr ⟨_, rfl, by decide, by decide, .inr (.inr ⟨by simp, g12, .inr ⟨iL (List.replicate 12 60), rfl, .inr ⟨g12, fun fs ls r ef el rb hr => ?_⟩⟩⟩)⟩⟩
  obtain rfl := iL_inj ef
  have el : iL (List.replicate 12 60) = iL ls := el
  obtain rfl := iL_inj el
  unfold u08_15
  walk_at "ewJ"
  refine parse_k (ns := [10000, 60]) (b := 1) (by decide) (by decide) (by decide +kernel) (by decide) fun q qb hq => ?_
  have rq : r = q := row_C rb hr qb hq
  subst rq
  walk_at "ewJ"
  refine ⟨r, r, rfl, ?_⟩
  rw [decide_eq_true rfl]
  refine iteF' (by decide) ?_
  refine (e_neT (l := [10000, 60, 12]) (m := [10000, 60, 12])).mpr ?_
  refine ⟨false, rfl, iteF' (by decide) ?_⟩
  clear hq qb hr rb el ef g12
  unfold u08_16
  walk_at "ewJ"
  refine ⟨_, _, _, rfl, .inr ⟨_, rfl, by omega, by omega, .inr (.inr ⟨by simp, goodLI [3, 4] (by decide) (by decide), .inr ⟨[], rfl, .inr ⟨⟨nofun, by decide⟩, fun fs ls r1 ef el rb hr => ?_⟩⟩⟩)⟩⟩
  obtain rfl : [] = fs := iL_inj (x := []) ef
  obtain rfl : [3, 4] = ls := iL_inj (x := [3, 4]) el
  obtain rfl := row_A f0 f1 rb hr
  walk_at "ewJ"
  refine ⟨_, _, _, rfl, .inr ⟨_, rfl, by omega, by omega, .inr (.inr ⟨by simp, goodLI [4] (by decide) (by decide), .inr ⟨_, rfl, .inr ⟨goodLI [1, 2] (by decide) (by decide), fun fs ls r2 ef el rb hr => ?_⟩⟩⟩)⟩⟩
  obtain rfl : [1, 2] = fs := iL_inj (x := [1, 2]) ef
  obtain rfl : [4] = ls := iL_inj (x := [4]) el
  obtain rfl := row_B f0 f1 rb hr
  walk_at "ewJ"
  unfold u08_17
  walk_at "ewJ"
  clear el ef hr rb
  obtain ⟨i, rfl⟩ : ∃ i : Nat, far = (i : Nat) := ⟨far.toNat, by omega⟩
  have hi : i < 99 := by omega
  refine ⟨_, rfl, _, rfl, ?_⟩
  rw [txA i hi, txB i hi]
  refine ⟨lg99 i hi, ln99 i hi, lg99 i hi, ln99' i hi, ?_⟩
  exact eqT_i rfl (by simp [PlD]) rfl
theorem lw08 {RDY : Nat → Hp → Addr → Prop} : uPlawR RDY { nx := fun _ => False, rt := fun d => d = .bl true } (.no :: .val .src :: List.replicate 10 .no) := by
  rw [e08]
  show u08_0 RDY _ [.no, .val .src, .no, .no, .no, .no, .no, .no, .no, .no, .no, .no]
  unfold u08_0
  walk_at "ewJ"
  refine below_i (by decide) (by decide) fun u0 u00 u01 => ?_
  walk_at "ewJ"
  refine below_i (by decide) (by decide) fun u1 u10 u11 => ?_
  walk_at "ewJ"
  have hu0 : u0 = 0 ∨ u0 = 1 := by omega
  refine ⟨.inl ⟨by omega, by omega⟩, ?_⟩
  obtain ⟨far, hfar⟩ : ∃ far : Int, far = u0 * u1 := ⟨_, rfl⟩
  rw [← hfar]
  have f0 : 0 ≤ far := by rcases hu0 with rfl | rfl <;> omega
  have f1 : far ≤ 98 := by rcases hu0 with rfl | rfl <;> omega
  clear hfar hu0 u00 u01 u10 u11 u0 u1
  unfold u08_1
  walk_at "ewJ"
  refine below_i (by decide) (by decide) fun u u0 u1 => ?_
  obtain ⟨odd, hodd, hb, ht⟩ : ∃ odd, atI [D.int (0 - 1 - far), D.int (10001 + far), D.non, D.bl true, D.str "1", D.tup [D.int 1]] u = some odd ∧ BadI 0 10000 odd ∧ True := by
    have h : u = 0 ∨ u = 1 ∨ u = 2 ∨ u = 3 ∨ u = 4 ∨ u = 5 := by omega
    rcases h with rfl | rfl | rfl | rfl | rfl | rfl
    · exact ⟨_, atI_c (n := 0) rfl, by show ¬ (_ ∧ _); omega, trivial⟩
    · exact ⟨_, atI_c (n := 1) rfl, by show ¬ (_ ∧ _); omega, trivial⟩
    · exact ⟨_, atI_c (n := 2) rfl, trivial, trivial⟩
    · exact ⟨_, atI_c (n := 3) rfl, trivial, trivial⟩
    · exact ⟨_, atI_c (n := 4) rfl, trivial, trivial⟩
    · exact ⟨_, atI_c (n := 5) rfl, trivial, trivial⟩
  refine ⟨odd, hodd, ?_⟩
  clear hodd u0 u1 u ht
  unfold u08_2
  walk_at "ewJ"
  intro L fp1 hL
  unfold u08_3
  walk_at "ewJ"
  simp only [e_allJX]
  walk_at "ewJ"
  refine ⟨muTt_i trivial, muTt_i ⟨by rw [hL]; exact fun j h => h, ?_⟩⟩
  rw [hL]
  simp only [allUX_cons, allUX_nil, ut08_0, ut08_1, ut08_2]
  walk_at "ewJ"
  have nr : ∀ {z : Str} {i : Int}, (z = "start" ∨ z = "laps" ∨ z = "first") ∧ (i = 0 ∨ i = 2 ∨ i = 12) → qNeD (tellD 8 [.str z, .int i]) (.tup [.str "row", .tup [.str z, .int i]]) fun b => b = .bl false := fun h => ne_row h rfl
  refine ⟨_, _, _, rfl, .inl ⟨hb, .head _, nr ⟨.inl rfl, .inl rfl⟩, ⟨_, rfl⟩, ?_⟩⟩
  refine ⟨_, _, _, rfl, .inl ⟨hb, .head _, nr ⟨.inl rfl, .inl rfl⟩, ⟨_, rfl⟩, ?_⟩⟩
  refine ⟨_, _, _, rfl, .inl ⟨hb, .head _, nr ⟨.inl rfl, .inl rfl⟩, ⟨_, rfl⟩, ?_⟩⟩
  clear hL hb
  unfold u08_4
  walk_at "ewJ"
  refine below_i (by decide) (by decide) fun u u0 u1 => ?_
  obtain ⟨lap, hlap, lb⟩ : ∃ lap, atI [D.int 0, D.int (0 - far), D.int (61 + far), D.non, D.bl true, D.str "1"] u = some lap ∧ BadI 1 60 lap := by
    have h : u = 0 ∨ u = 1 ∨ u = 2 ∨ u = 3 ∨ u = 4 ∨ u = 5 := by omega
    rcases h with rfl | rfl | rfl | rfl | rfl | rfl
    · exact ⟨_, atI_c (n := 0) rfl, by show ¬ (_ ∧ _); omega⟩
    · exact ⟨_, atI_c (n := 1) rfl, by show ¬ (_ ∧ _); omega⟩
    · exact ⟨_, atI_c (n := 2) rfl, by show ¬ (_ ∧ _); omega⟩
    · exact ⟨_, atI_c (n := 3) rfl, trivial⟩
    · exact ⟨_, atI_c (n := 4) rfl, trivial⟩
    · exact ⟨_, atI_c (n := 5) rfl, trivial⟩
  refine ⟨lap, hlap, ?_⟩
  clear hlap u0 u1 u
  unfold u08_5
  walk_at "ewJ"
  intro fp5
  unfold u08_6
  walk_at "ewJ"
  refine ⟨_, _, rfl, by decide, fun fp6 => ?_⟩
  unfold u08_7
  walk_at "ewJ"
  refine ⟨_, _, rfl, by decide, fun fp7 => ?_⟩
  unfold u08_8
  walk_at "ewJ"
  refine ⟨_, _, rfl, by decide, fun fp8 => ?_⟩
  unfold u08_9
  walk_at "ewJ"
  refine ⟨_, _, rfl, by decide, fun fp9 => ?_⟩
  unfold u08_10
  walk_at "ewJ"
  refine ⟨_, _, rfl, by decide, fun fp10 => ?_⟩
  unfold u08_11
  walk_at "ewJ"
  refine ⟨_, _, rfl, by decide, fun fp11 => ?_⟩
  unfold u08_12
  walk_at "ewJ"
  refine ⟨_, _, rfl, by decide, fun fp12 => ?_⟩
  simp only [List.cons_append, List.nil_append]
  unfold u08_13
  walk_at "ewJ"
  refine ⟨_, _, rfl, ?_⟩
  refine forp_cons ?_
  walk_at "ewJ"
  refine ⟨_, _, rfl, by decide, ?_⟩
  rw [ut08_3]
  walk_at "ewJ"
  refine ⟨_, _, _, rfl, .inr ⟨_, rfl, by decide, by decide, .inr (.inl ⟨rfl, ⟨.head _, ne_row ⟨.inr (.inl rfl), .inl rfl⟩ ⟨false, rfl, iteF' (by decide) ?_⟩⟩⟩)⟩⟩
  refine forp_cons ?_
  walk_at "ewJ"
  refine ⟨_, _, rfl, by decide, ?_⟩
  rw [ut08_4]
  walk_at "ewJ"
  refine ⟨_, _, _, rfl, .inr ⟨_, rfl, by decide, by decide, .inl ⟨0, ⟨[], lap, [lap], rfl, rfl, nofun, by decide, .inr lb⟩, ⟨.head _, ne_row ⟨.inr (.inl rfl), .inl rfl⟩ ⟨false, rfl, iteF' (by decide) ?_⟩⟩⟩⟩⟩
  refine forp_cons ?_
  walk_at "ewJ"
  refine ⟨_, _, rfl, by decide, ?_⟩
  rw [ut08_5]
  walk_at "ewJ"
  refine ⟨_, _, _, rfl, .inr ⟨_, rfl, by decide, by decide, .inl ⟨2, ⟨_, lap, [.int 3], rfl, rfl, goodI [1, 60] (by decide), by decide, .inr lb⟩, ⟨.head _, ne_row ⟨.inr (.inl rfl), .inr (.inl rfl)⟩ ⟨false, rfl, iteF' (by decide) ?_⟩⟩⟩⟩⟩
  refine forp_cons ?_
  walk_at "ewJ"
  refine ⟨_, _, rfl, by decide, ?_⟩
  rw [ut08_6]
  walk_at "ewJ"
  refine ⟨_, _, _, rfl, .inr ⟨_, rfl, by decide, by decide, .inl ⟨12, ⟨_, lap, [], rfl, rfl, goodI [1, 2, 3, 4, 5, 6, 7, 8, 9, 10, 11, 12] (by decide), by decide, .inl rfl⟩, ⟨.head _, ne_row ⟨.inr (.inl rfl), .inr (.inr rfl)⟩ ⟨false, rfl, iteF' (by decide) ?_⟩⟩⟩⟩⟩
  refine forp_cons ?_
  walk_at "ewJ"
  refine ⟨_, _, rfl, by decide, ?_⟩
  rw [ut08_7]
  walk_at "ewJ"
  refine ⟨_, _, _, rfl, .inr ⟨_, rfl, by decide, by decide, .inl ⟨12, ⟨_, .int 13, [], rfl, rfl, goodI [1, 2, 3, 4, 5, 6, 7, 8, 9, 10, 11, 12] (by decide), by decide, .inl rfl⟩, ⟨.head _, ne_row ⟨.inr (.inl rfl), .inr (.inr rfl)⟩ ⟨false, rfl, iteF' (by decide) ?_⟩⟩⟩⟩⟩
  refine forp_cons ?_
  walk_at "ewJ"
  refine ⟨_, _, rfl, by decide, ?_⟩
  rw [ut08_8]
  walk_at "ewJ"
  refine ⟨_, _, _, rfl, .inr ⟨_, rfl, by decide, by decide, .inr (.inr ⟨by simp, goodLI [1] (by decide) (by decide), .inr ⟨_, rfl, .inl ⟨0, ⟨[], lap, [.int 0], rfl, rfl, nofun, by decide, .inr lb⟩, ⟨.head _, ne_row ⟨.inr (.inr rfl), .inl rfl⟩ ⟨false, rfl, iteF' (by decide) ?_⟩⟩⟩⟩⟩)⟩⟩
  refine forp_cons ?_
  walk_at "ewJ"
  refine ⟨_, _, rfl, by decide, ?_⟩
  rw [ut08_9]
  walk_at "ewJ"
  refine ⟨_, _, _, rfl, .inr ⟨_, rfl, by decide, by decide, .inr (.inr ⟨by simp, goodLI [1] (by decide) (by decide), .inr ⟨_, rfl, .inl ⟨2, ⟨_, lap, [], rfl, rfl, goodI [1, 60] (by decide), by decide, .inr lb⟩, ⟨.head _, ne_row ⟨.inr (.inr rfl), .inr (.inl rfl)⟩ ⟨false, rfl, iteF' (by decide) ?_⟩⟩⟩⟩⟩)⟩⟩
  refine forp_cons ?_
  walk_at "ewJ"
  refine ⟨_, _, rfl, by decide, ?_⟩
  rw [ut08_10]
  walk_at "ewJ"
  refine ⟨⟨by simp, by decide, by decide, by simp⟩, ?_⟩
  walk_at "ewJ"
  refine ⟨_, _, _, rfl, .inr ⟨_, rfl, by decide, by decide, .inr (.inr ⟨by simp, goodLI [1] (by decide) (by decide), .inr ⟨_, rfl, .inl ⟨12, ⟨iL (List.replicate 12 9), .int 9, [], rfl, rfl, goodI _ (by decide), by decide, .inl rfl⟩, ⟨.head _, ne_row ⟨.inr (.inr rfl), .inr (.inr rfl)⟩ ⟨false, rfl, iteF' (by decide) ?_⟩⟩⟩⟩⟩)⟩⟩
  refine forp_cons ?_
  walk_at "ewJ"
  refine ⟨_, _, rfl, by decide, ?_⟩
  rw [ut08_11]
  walk_at "ewJ"
  refine ⟨by decide, ?_⟩
  obtain ⟨y, hy, ny⟩ : ∃ y, atI [D.lst [D.int 1], D.int 5, D.non, D.str "1", D.bl true] (far % 5) = some y ∧ NoTup y := by
    have h : far % 5 = 0 ∨ far % 5 = 1 ∨ far % 5 = 2 ∨ far % 5 = 3 ∨ far % 5 = 4 := by omega
    rcases h with h | h | h | h | h <;> rw [h]
    · exact ⟨_, atI_c (n := 0) rfl, trivial⟩
    · exact ⟨_, atI_c (n := 1) rfl, trivial⟩
    · exact ⟨_, atI_c (n := 2) rfl, trivial⟩
    · exact ⟨_, atI_c (n := 3) rfl, trivial⟩
    · exact ⟨_, atI_c (n := 4) rfl, trivial⟩
  refine ⟨y, hy, ?_⟩
  walk_at "ewJ"
  refine ⟨_, _, _, rfl, .inr ⟨_, rfl, by decide, by decide, .inr (.inr ⟨by simp, goodLI [1] (by decide) (by decide), .inl ⟨ny, ⟨.head _, ne_row ⟨.inr (.inr rfl), .inl rfl⟩ ⟨false, rfl, iteF' (by decide) ?_⟩⟩⟩⟩)⟩⟩
  rw [forp_nil]
  exact tail08 f0 f1
end TkL


namespace TkL
open PySem PySem.Spec PySem.Calls PyProof.Rows L2 Tk LamX
theorem len0 {P : List Value → Prop} (h : P []) : ∀ us : List Value, us.length = 0 → P us
  | [], _ => h
theorem lenS {n : Nat} {P : List Value → Prop} (h : ∀ (a : Value) (us : List Value), us.length = n → P (a :: us)) : ∀ us : List Value, us.length = n + 1 → P us
  | a :: us, e => h a us (Nat.succ.inj e)
def top (i : Nat) : Stmt := PySem.Challenge.pw_tracktimes_k08_invalid_rows.main.body.getD i (.Pass ⟨0, 0, 0, 0⟩)
section
variable {P : Program} {w : World} {K : PySem.W.Frag} {mg : Str → Option Value} {base : Heap} {C T0 : Addr}
theorem scLrandom : FnScope ["_law_script", "_law_salt", "_law_seed", "_law_cell"] ["_law_script", "_law_salt"] (defScope (top 34)) := ⟨rfl, rfl, rfl, by decide +kernel, rfl, by decide +kernel, by decide +kernel⟩
theorem okLrandom {f : Addr} {fd : FuncData} (F : Fun K "_law_random" "_law_random" (top 34) f fd) (T : TyF K C) (c : Cst mg) (b : Blt mg) (R : RowC K mg C)  : FnOk P w K mg base CX0 1 f fd ["_law_script", "_law_salt"] (spRandom K) := by
  refine F.ok scLrandom (fun vs H Q E h => ?_) (fun cdv A outer s H vs Q E hr h => ⟨tLrandom K, ?_, (rdLrandom T vs H Q E h)⟩)
  · (repeat (first | (rw [h.1]; rfl) | (obtain ⟨_, h⟩ := h)))
  · have sc := scLrandom
    exact (pss_cons (ps_set (i := 2) sc.nd rfl (.inl rfl) (pv 1))
      (pss_cons (ps_for PassesOwn.never rfl (pi_list (pv 0)) (pg_name (i := 3) sc.nd rfl (.inl rfl)) (pss_one (ps_set (i := 2) sc.nd rfl (.inl rfl) (pe_op op_mod (pe_op op_add (pe_op op_mul (pv 2) pe_int) (pe_callB c_abs (by rfl) b.abs (by decide +kernel) (pa_cons (pv 3) pa_nil))) pe_int))))
      (pss_one (ps_ret (pe_op op_cat (pe_lst (pa_cons (pv 2) (pa_cons pe_int pa_nil))) (pe_lc (own := [("_law_cell", 3)]) rfl sc.nd (pi_list (pv 0)) (blkOk_by (by rfl)) (fun _ _ _ _ _ => (pg_name (i := 3) sc.nd rfl (.inl rfl))) (fun _ _ _ _ _ => (pts_one (pt_cmpR op_ge (pv 3) (pe_op op_pow pe_int pe_int) (nomark _)))) (fun _ _ _ _ _ => (pv 3))))))))
theorem scLbelow : FnScope ["_law_d", "_law_limit", "_law_result"] ["_law_d", "_law_limit"] (defScope (top 35)) := ⟨rfl, rfl, rfl, by decide +kernel, rfl, by decide +kernel, by decide +kernel⟩
theorem okLbelow {f : Addr} {fd : FuncData} (F : Fun K "_law_below" "_law_below" (top 35) f fd) (T : TyF K C) (c : Cst mg) (b : Blt mg) (R : RowC K mg C)  : FnOk P w K mg base CX0 1 f fd ["_law_d", "_law_limit"] (spBelow) := by
  refine F.ok scLbelow (fun vs H Q E h => ?_) (fun cdv A outer s H vs Q E hr h => ⟨tLbelow K, ?_, (rdLbelow T vs H Q E h)⟩)
  · (repeat (first | (rw [h.1]; rfl) | (obtain ⟨_, h⟩ := h)))
  · have sc := scLbelow
    exact (pss_cons (ps_if (PW.pt (pw_and (pt_cmpR op_eq (pe_ix ix_list (pv 0) pe_int (fun _ _ => rfl)) pe_int (nomark _)) (pw_and1 (pt_cmpR op_gt (pe_callB c_len (by rfl) b.len (by decide +kernel) (pa_cons (pv 0) pa_nil)) pe_int (nomark _))))) (pss_one (ps_asg (pe_bm PySem.F.plainAttrs_list PySem.F.slot_list_pop PySem.F.type_list_pop mt_popAt (pv 0) (pa_cons pe_int pa_nil)) (pg_sub (pv 0) pe_int set_list))) pss_nil)
      (pss_cons (ps_if (pt_cmpR op_gt (pe_ix ix_list (pv 0) pe_int (fun _ _ => rfl)) pe_int (nomark _)) (pss_cons (ps_set (i := 2) sc.nd rfl (.inl rfl) (pe_op op_mod (pe_ix ix_list (pv 0) pe_int (fun _ _ => rfl)) (pv 1)))
      (pss_cons (ps_asg (pe_op op_fdiv (pe_ix ix_list (pv 0) pe_int (fun _ _ => rfl)) (pv 1)) (pg_sub (pv 0) pe_int set_list))
      (pss_one (ps_ret (pv 2))))) pss_nil)
      (pss_cons (ps_asg (pe_op op_mod (pe_op op_add (pe_op op_mul (pe_ix ix_list (pv 0) pe_int (fun _ _ => rfl)) pe_int) pe_int) pe_int) (pg_sub (pv 0) pe_int set_list))
      (pss_one (ps_ret (pe_op op_mod (pe_op op_fdiv (pe_ix ix_list (pv 0) pe_int (fun _ _ => rfl)) pe_int) (pv 1)))))))
theorem scRinit : FnScope ["self", "early", "begin", "length", "offsets", "offset"] ["self", "early", "begin", "length", "offsets"] (defScope (inClass (top 24) 3)) := ⟨rfl, rfl, rfl, by decide +kernel, rfl, by decide +kernel, by decide +kernel⟩
theorem okRinit {f : Addr} {fd : FuncData} (F : Fun K "__init__" "Row.__init__" (inClass (top 24) 3) f fd) (T : TyF K C) (c : Cst mg) (b : Blt mg) (R : RowC K mg C)  : FnOk P w K mg base CX0 1 f fd ["self", "early", "begin", "length", "offsets"] (spInit K C) := by
  refine F.ok scRinit (fun vs H Q E h => ?_) (fun cdv A outer s H vs Q E hr h => ⟨tRinit K, ?_, (rdRinit T vs H Q E h)⟩)
  · (repeat (first | (rw [h.1]; rfl) | (obtain ⟨_, h⟩ := h)))
  · have sc := scRinit
    exact (pss_cons (ps_fld (pv 0) (pv 1) rfl)
      (pss_cons (ps_fld (pv 0) (pv 2) rfl)
      (pss_cons (ps_fld (pv 0) (pv 3) rfl)
      (pss_cons (ps_fld (pv 0) (pv 4) rfl)
      (pss_cons (ps_fld (pv 0) (pe_dc (own := [("offset", 5)]) rfl sc.nd (pi_tup (pv 4)) (blkOk_by (by rfl)) (fun _ _ _ _ _ => (pg_name (i := 5) sc.nd rfl (.inl rfl))) (fun _ _ _ _ _ => pts_nil) (fun _ _ _ _ _ => (pv 5)) (fun _ _ _ _ _ => pe_bl)) rfl)
      (pss_one (ps_fld (pv 0) (pe_tup (pa_cons (pv 1) (pa_cons (pv 2) (pa_cons (pv 3) (pa_cons (pv 4) pa_nil))))) rfl)))))))
theorem scPread_number : FnScope ["word", "digit"] ["word"] (defScope (top 26)) := ⟨rfl, rfl, rfl, by decide +kernel, rfl, by decide +kernel, by decide +kernel⟩
theorem okPread_number {f : Addr} {fd : FuncData} (F : Fun K "read_number" "read_number" (top 26) f fd) (T : TyF K C) (c : Cst mg) (b : Blt mg) (R : RowC K mg C)  : FnOk P w K mg base CX0 1 f fd ["word"] (spReadNumber) := by
  refine F.ok scPread_number (fun vs H Q E h => ?_) (fun cdv A outer s H vs Q E hr h => ⟨tPread_number K, ?_, (rdPread_number T vs H Q E h)⟩)
  · (repeat (first | (rw [h.1]; rfl) | (obtain ⟨_, h⟩ := h)))
  · have sc := scPread_number
    exact (pss_cons (ps_if (PW.pt (pw_or (pt_not (pt_chain op_le op_le pe_int (pe_callB c_lenS (by rfl) b.len (by decide +kernel) (pa_cons (pv 0) pa_nil)) (pe_gi c.MAX_DIGITS))) (pw_or1 (pt_val (pe_callB (cr_any rfl) (by rfl) b.any (by decide +kernel) (pa_cons (pe_lc (own := [("digit", 1)]) rfl sc.nd (pi_str (pv 0)) (blkOk_by (by rfl)) (fun _ _ _ _ _ => (pg_name (i := 1) sc.nd rfl (.inl rfl))) (fun _ _ _ _ _ => pts_nil) (fun _ _ _ _ _ => (pe_cmpR o_notInSig (pv 1) (pe_gs c.DIGITS) (by rfl)))) pa_nil)))))) (pss_one (ps_ret pe_non)) pss_nil)
      (pss_one (ps_ret (pe_ifExp (PW.pt (pw_and (pt_cmpR op_gt (pe_callB c_lenS (by rfl) b.len (by decide +kernel) (pa_cons (pv 0) pa_nil)) pe_int (nomark _)) (pw_and1 (pt_cmpR op_eq (pe_ix ix_str (pv 0) pe_int (fun _ _ => rfl)) pe_str (nomark _))))) pe_non (pe_callTy c_intS (by rfl) b.int (by decide +kernel) (pa_cons (pv 0) pa_nil))))))
theorem scPshortest : FnScope ["length", "offsets", "marks", "size", "offset"] ["length", "offsets"] (defScope (top 30)) := ⟨rfl, rfl, rfl, by decide +kernel, rfl, by decide +kernel, by decide +kernel⟩
theorem okPshortest {f : Addr} {fd : FuncData} (F : Fun K "shortest" "shortest" (top 30) f fd) (T : TyF K C) (c : Cst mg) (b : Blt mg) (R : RowC K mg C)  : FnOk P w K mg base CX0 1 f fd ["length", "offsets"] (spShortest K) := by
  refine F.ok scPshortest (fun vs H Q E h => ?_) (fun cdv A outer s H vs Q E hr h => ⟨tPshortest K, ?_, (rdPshortest T vs H Q E h)⟩)
  · (repeat (first | (rw [h.1]; rfl) | (obtain ⟨_, h⟩ := h)))
  · have sc := scPshortest
    exact (pss_cons (ps_set (i := 2) sc.nd rfl (.inr rfl) (pe_dc (own := [("offset", 4)]) rfl sc.nd (pi_seq (pv 1)) (blkOk_by (by rfl)) (fun _ _ _ _ _ => (pg_name (i := 4) sc.nd rfl (.inl rfl))) (fun _ _ _ _ _ => pts_nil) (fun _ _ _ _ _ => (pv 4)) (fun _ _ _ _ _ => pe_bl)))
      (pss_cons (ps_for PassesOwn.never rfl (pi_range2 (by rfl) b.range (pa_cons pe_int (pa_cons (pv 0) pa_nil))) (pg_name (i := 3) sc.nd rfl (.inr rfl)) (pss_one (ps_if (PW.pt (pw_and (pt_cmpR op_eq (pe_op op_mod (pv 0) (pv 3)) pe_int (nomark _)) (pw_and1 (pt_val (pe_callB (cr_all rfl) (by rfl) b.all (by decide +kernel) (pa_cons (pe_lc (own := [("offset", 4)]) rfl sc.nd (pi_seq (pv 1)) (blkOk_by (by rfl)) (fun _ _ _ _ _ => (pg_name (i := 4) sc.nd rfl (.inl rfl))) (fun _ _ _ _ _ => pts_nil) (fun _ _ _ _ _ => (pe_cmp (pc_din (rm1 hr) (pe_op op_mod (pe_op op_add (pv 4) (pv 3)) (pv 0)) (pv 2)) rfl))) pa_nil)))))) (pss_one (ps_ret (pv 3))) pss_nil)))
      (pss_one (ps_ret (pv 0)))))
theorem scPnormal : FnScope ["early", "begin", "length", "offsets", "size", "marks", "last", "back", "left", "found", "is_early", "offset", "mark"] ["early", "begin", "length", "offsets"] (defScope (top 31)) := ⟨rfl, rfl, rfl, by decide +kernel, rfl, by decide +kernel, by decide +kernel⟩
theorem okPnormal {f : Addr} {fd : FuncData} (F : Fun K "normal" "normal" (top 31) f fd) (T : TyF K C) (c : Cst mg) (b : Blt mg) (R : RowC K mg C) (FmkRow : MkN P w K mg base CX0 1 C (spInit K C)) (Fshortest : DefN P w K mg base CX0 1 "shortest" ["length", "offsets"] (spShortest K)) : FnOk P w K mg base CX0 3 f fd ["early", "begin", "length", "offsets"] (spNormal K C) := by
  refine F.ok scPnormal (fun vs H Q E h => ?_) (fun cdv A outer s H vs Q E hr h => ⟨tPnormal K C, ?_, (rdPnormal T vs H Q E h)⟩)
  · (repeat (first | (rw [h.1]; rfl) | (obtain ⟨_, h⟩ := h)))
  · have sc := scPnormal
    exact (pss_cons (ps_if (pt_cmpR op_eq (pe_callB c_len (by rfl) b.len (by decide +kernel) (pa_cons (pv 3) pa_nil)) pe_int (nomark _)) (pss_one (ps_ret (pe_mkN FmkRow (hr.mono (by decide)) R.gC pass0 (pa_cons (pe_callTy c_tuple (by rfl) b.tuple (by decide +kernel) (pa_cons (pv 0) pa_nil)) (pa_cons (pe_ifExp (pt_cmpR op_gt (pe_callB c_len (by rfl) b.len (by decide +kernel) (pa_cons (pv 0) pa_nil)) pe_int (nomark _)) (pe_op op_add (pe_ix ix_list (pv 0) (pe_un un_neg pe_int) (fun _ _ => rfl)) pe_int) pe_int) (pa_cons pe_int (pa_cons (pe_tup pa_nil) pa_nil))))))) pss_nil)
      (pss_cons (ps_set (i := 4) sc.nd rfl (.inr rfl) (pe_def Fshortest (hr.mono (by decide)) pass0 (pa_cons (pv 2) (pa_cons (pv 3) pa_nil))))
      (pss_cons (ps_setDc (i := 5) (own := [("offset", 11)]) rfl sc.nd rfl rfl (swd_true rfl rfl rfl (by decide +kernel)) (pi_seq (pv 3)) (blkOk_by (by rfl)) (fun _ _ _ _ _ => (pg_name (i := 11) sc.nd rfl (.inl rfl))) (fun _ _ _ _ _ => pts_nil) (fun _ _ _ _ _ => (pe_op op_mod (pv 11) (pv 4))) (fun _ _ _ _ _ => pe_bl))
      (pss_cons (ps_asg (pe_tup (pa_cons (pv 1) (pa_cons pe_int (pa_cons (pe_callB c_len (by rfl) b.len (by decide +kernel) (pa_cons (pv 0) pa_nil)) pa_nil)))) (pg_tup (by rfl) (pgs_cons (pg_name (i := 6) sc.nd rfl (.inl rfl)) (pgs_cons (pg_name (i := 7) sc.nd rfl (.inr rfl)) (pgs_cons (pg_name (i := 8) sc.nd rfl (.inl rfl)) pgs_nil)))))
      (pss_cons (ps_while PassesOwn.never (pt_cmpR op_gt (pv 6) pe_int (nomark _)) (pss_cons (ps_set (i := 10) sc.nd rfl (.inl rfl) (pe_and (pe_cmpR op_gt (pv 8) pe_int (nomark _)) (pe_one (pe_cmpR op_eq (pe_ix ix_list (pv 0) (pe_op op_sub (pv 8) pe_int) (fun _ _ => rfl)) (pe_op op_sub (pv 6) pe_int) (nomark _)))))
      (pss_cons (ps_if (pt_cmpR op_ne (pv 10) (pe_cmp (pc_din (rm1 hr) (pe_op op_mod (pe_op op_sub (pe_un un_neg pe_int) (pv 7)) (pv 4)) (pv 5)) rfl) (nomark _)) (pss_one ps_break) pss_nil)
      (pss_one (ps_asg (pe_tup (pa_cons (pe_op op_sub (pv 6) pe_int) (pa_cons (pe_op op_add (pv 7) pe_int) (pa_cons (pe_op op_sub (pv 8) (pe_callTy c_int (by rfl) b.int (by decide +kernel) (pa_cons (pv 10) pa_nil))) pa_nil)))) (pg_tup (by rfl) (pgs_cons (pg_name (i := 6) sc.nd rfl (.inl rfl)) (pgs_cons (pg_name (i := 7) sc.nd rfl (.inr rfl)) (pgs_cons (pg_name (i := 8) sc.nd rfl (.inl rfl)) pgs_nil)))))))))
      (pss_cons (ps_lock (ps_setLc (i := 9) (own := [("mark", 12)]) rfl sc.nd rfl rfl (sw_true rfl rfl rfl (by decide +kernel)) (pi_keys (pv 5)) (blkOk_by (by rfl)) (fun _ _ _ _ _ => (pg_name (i := 12) sc.nd rfl (.inl rfl))) (fun _ _ _ _ _ => pts_nil) (fun _ _ _ _ _ => (pe_op op_mod (pe_op op_add (pv 12) (pv 7)) (pv 4)))))
      (pss_one (ps_ret (pe_mkN FmkRow (hr.mono (by decide)) R.gC pass0 (pa_cons (pe_callTy c_tuple (by rfl) b.tuple (by decide +kernel) (pa_cons (pe_slice sl_list (pv 0) po_none (po_some (pv 8))) pa_nil)) (pa_cons (pv 6) (pa_cons (pv 4) (pa_cons (pe_callTy c_tuple (by rfl) b.tuple (by decide +kernel) (pa_cons (pe_callB cr_sortedI (by rfl) b.sorted (by decide +kernel) (pa_cons (pe_lc (own := [("mark", 12)]) rfl sc.nd (pi_list (pv 9)) (blkOk_by (by rfl)) (fun _ _ _ _ _ => (pg_name (i := 12) sc.nd rfl (.inl rfl))) (fun _ _ _ _ _ => pts_nil) (fun _ _ _ _ _ => (pe_callTy c_int (by rfl) b.int (by decide +kernel) (pa_cons (pv 12) pa_nil)))) pa_nil)) pa_nil)) pa_nil)))))))))))))
theorem scProw_of_ticks : FnScope ["ticks"] ["ticks"] (defScope (top 28)) := ⟨rfl, rfl, rfl, by decide +kernel, rfl, by decide +kernel, by decide +kernel⟩
theorem okProw_of_ticks {f : Addr} {fd : FuncData} (F : Fun K "row_of_ticks" "row_of_ticks" (top 28) f fd) (T : TyF K C) (c : Cst mg) (b : Blt mg) (R : RowC K mg C) (Fnormal : DefN P w K mg base CX0 3 "normal" ["early", "begin", "length", "offsets"] (spNormal K C)) : FnOk P w K mg base CX0 5 f fd ["ticks"] (spRowOfTicks K C) := by
  refine F.ok scProw_of_ticks (fun vs H Q E h => ?_) (fun cdv A outer s H vs Q E hr h => ⟨tProw_of_ticks K C, ?_, (rdProw_of_ticks T vs H Q E h)⟩)
  · (repeat (first | (rw [h.1]; rfl) | (obtain ⟨_, h⟩ := h)))
  · have sc := scProw_of_ticks
    exact (pss_one (ps_ret (pe_def Fnormal (hr.mono (by decide)) pass0 (pa_cons (pv 0) (pa_cons (pe_op op_add (pe_ix ix_list (pv 0) (pe_un un_neg pe_int) (fun _ _ => rfl)) pe_int) (pa_cons pe_int (pa_cons (pe_lst pa_nil) pa_nil)))))))
theorem scPticks_of : FnScope ["numbers", "ticks", "lap"] ["numbers"] (defScope (top 27)) := ⟨rfl, rfl, rfl, by decide +kernel, rfl, by decide +kernel, by decide +kernel⟩
theorem okPticks_of {f : Addr} {fd : FuncData} (F : Fun K "ticks_of" "ticks_of" (top 27) f fd) (T : TyF K C) (c : Cst mg) (b : Blt mg) (R : RowC K mg C)  : FnOk P w K mg base CX0 1 f fd ["numbers"] (spTicksOf K) := by
  refine F.ok scPticks_of (fun vs H Q E h => ?_) (fun cdv A outer s H vs Q E hr h => ⟨tPticks_of K, ?_, (rdPticks_of T vs H Q E h)⟩)
  · (repeat (first | (rw [h.1]; rfl) | (obtain ⟨_, h⟩ := h)))
  · have sc := scPticks_of
    exact (pss_cons (ps_set (i := 1) sc.nd rfl (.inl rfl) (pe_lst (pa_cons (pe_ix ix_list (pv 0) pe_int (fun _ _ => rfl)) pa_nil)))
      (pss_cons (ps_for PassesOwn.never rfl (pi_list (pe_slice sl_list (pv 0) (po_some pe_int) po_none)) (pg_name (i := 2) sc.nd rfl (.inl rfl)) (pss_one (ps_expr (pe_bm PySem.F.plainAttrs_list PySem.F.slot_list_append PySem.F.type_list_append mt_append (pv 1) (pa_cons (pe_op op_add (pe_ix ix_list (pv 1) (pe_un un_neg pe_int) (fun _ _ => rfl)) (pv 2)) pa_nil)))))
      (pss_one (ps_ret (pv 1)))))
theorem scProw_of_laps : FnScope ["start", "first", "laps", "early", "begin", "offsets", "length"] ["start", "first", "laps"] (defScope (top 29)) := ⟨rfl, rfl, rfl, by decide +kernel, rfl, by decide +kernel, by decide +kernel⟩
theorem okProw_of_laps {f : Addr} {fd : FuncData} (F : Fun K "row_of_laps" "row_of_laps" (top 29) f fd) (T : TyF K C) (c : Cst mg) (b : Blt mg) (R : RowC K mg C) (Fticks_of : DefN P w K mg base CX0 1 "ticks_of" ["numbers"] (spTicksOf K)) (Fnormal : DefN P w K mg base CX0 3 "normal" ["early", "begin", "length", "offsets"] (spNormal K C)) : FnOk P w K mg base CX0 5 f fd ["start", "first", "laps"] (spRowOfLaps K C) := by
  refine F.ok scProw_of_laps (fun vs H Q E h => ?_) (fun cdv A outer s H vs Q E hr h => ⟨tProw_of_laps K C, ?_, (rdProw_of_laps T vs H Q E h)⟩)
  · (repeat (first | (rw [h.1]; rfl) | (obtain ⟨_, h⟩ := h)))
  · have sc := scProw_of_laps
    exact (pss_cons (ps_set (i := 3) sc.nd rfl (.inl rfl) (pe_def Fticks_of (hr.mono (by decide)) pass0 (pa_cons (pe_op op_cat (pe_lst (pa_cons (pv 0) pa_nil)) (pe_callTy c_list (by rfl) b.list (by decide +kernel) (pa_cons (pv 1) pa_nil))) pa_nil)))
      (pss_cons (ps_set (i := 4) sc.nd rfl (.inl rfl) (pe_bm0 PySem.F.plainAttrs_list PySem.F.slot_list_pop PySem.F.type_list_pop mt_pop (pv 3)))
      (pss_cons (ps_set (i := 5) sc.nd rfl (.inl rfl) (pe_def Fticks_of (hr.mono (by decide)) pass0 (pa_cons (pe_op op_cat (pe_lst (pa_cons pe_int pa_nil)) (pe_callTy c_list (by rfl) b.list (by decide +kernel) (pa_cons (pv 2) pa_nil))) pa_nil)))
      (pss_cons (ps_set (i := 6) sc.nd rfl (.inl rfl) (pe_bm0 PySem.F.plainAttrs_list PySem.F.slot_list_pop PySem.F.type_list_pop mt_pop (pv 5)))
      (pss_one (ps_ret (pe_def Fnormal (hr.mono (by decide)) pass0 (pa_cons (pv 3) (pa_cons (pv 4) (pa_cons (pv 6) (pa_cons (pv 5) pa_nil)))))))))))
theorem scRparse : FnScope ["cls", "text", "words", "numbers", "bar", "place", "word", "number"] ["cls", "text"] (defScope (inClass (top 24) 5)) := ⟨rfl, rfl, rfl, by decide +kernel, rfl, by decide +kernel, by decide +kernel⟩
theorem okRparse {f : Addr} {fd : FuncData} (F : Fun K "parse" "Row.parse" (inClass (top 24) 5) f fd) (T : TyF K C) (c : Cst mg) (b : Blt mg) (R : RowC K mg C) (FmkRow : MkN P w K mg base CX0 1 C (spInit K C)) (Fread_number : DefN P w K mg base CX0 1 "read_number" ["word"] (spReadNumber)) (Frow_of_ticks : DefN P w K mg base CX0 5 "row_of_ticks" ["ticks"] (spRowOfTicks K C)) (Fticks_of : DefN P w K mg base CX0 1 "ticks_of" ["numbers"] (spTicksOf K)) (Frow_of_laps : DefN P w K mg base CX0 5 "row_of_laps" ["start", "first", "laps"] (spRowOfLaps K C)) : FnOk P w K mg base CX0 6 f fd ["cls", "text"] (spParse K C) := by
  refine F.ok scRparse (fun vs H Q E h => ?_) (fun cdv A outer s H vs Q E hr h => ⟨tRparse K C, ?_, (rdRparse T vs H Q E h)⟩)
  · (repeat (first | (rw [h.1]; rfl) | (obtain ⟨_, h⟩ := h)))
  · have sc := scRparse
    exact (pss_cons (ps_if (pt_cmpR op_eq (pv 1) (pe_gs c.NEVER) (nomark _)) (pss_one (ps_ret (pe_mkV (i := 0) FmkRow (hr.mono (by decide)) pass0 (pa_cons (pe_tup pa_nil) (pa_cons pe_int (pa_cons pe_int (pa_cons (pe_tup pa_nil) pa_nil))))))) pss_nil)
      (pss_cons (ps_set (i := 2) sc.nd rfl (.inl rfl) (pe_bm PySem.F.plainAttrs_str PySem.F.slot_str_split PySem.F.type_str_split m_split (pv 1) (pa_cons pe_str pa_nil)))
      (pss_cons (ps_par (i := 3) (j := 4) (by rfl) sc.nd rfl rfl (by decide) rfl rfl (pa_cons (pe_lst pa_nil) (pa_cons pe_non pa_nil)) (by rfl))
      (pss_cons (ps_for PassesOwn.never rfl (pi_enumA b.enumerate (pa_cons (pv 2) pa_nil)) (pg_tup (by rfl) (pgs_cons (pg_name (i := 5) sc.nd rfl (.inl rfl)) (pgs_cons (pg_name (i := 6) sc.nd rfl (.inl rfl)) pgs_nil))) (pss_one (ps_if (PW.pt (pw_and (pt_cmpR op_eq (pv 6) (pe_gs c.BAR) (nomark _)) (pw_and (pt_cmpR o_isNon (pv 4) pe_non (nomark _)) (pw_and1 (pt_cmpR op_gt (pv 5) pe_int (nomark _)))))) (pss_one (ps_set (i := 4) sc.nd rfl (.inl rfl) (pe_callB c_len (by rfl) b.len (by decide +kernel) (pa_cons (pv 3) pa_nil)))) (pss_cons (ps_set (i := 7) sc.nd rfl (.inl rfl) (pe_def Fread_number (hr.mono (by decide)) pass0 (pa_cons (pv 6) pa_nil)))
      (pss_cons (ps_if (PW.pt (pw_or (pt_cmpR o_isNon (pv 7) pe_non (nomark _)) (pw_or (PW.pt (pw_and (pt_cmpR op_eq (pv 7) pe_int (nomark _)) (pw_and1 (pt_cmpR op_gt (pv 5) pe_int (nomark _))))) (pw_or1 (pt_cmpR op_gt (pv 7) (pe_gi c.MAX_BEGIN) (nomark _)))))) (pss_one ps_never) pss_nil)
      (pss_cons (ps_expr (pe_bm PySem.F.plainAttrs_list PySem.F.slot_list_append PySem.F.type_list_append mt_append (pv 3) (pa_cons (pv 7) pa_nil)))
      (pss_one (ps_if (PW.pt (pw_or (PW.pt (pw_and (pt_cmpR o_isNon (pv 4) pe_non (nomark _)) (pw_and1 (pt_cmpR op_gt (pe_callB (cr_sum rfl) (by rfl) b.sum (by decide +kernel) (pa_cons (pv 3) pa_nil)) (pe_gi c.MAX_BEGIN) (nomark _))))) (pw_or1 (PW.pt (pw_and (pt_cmpR o_notNon (pv 4) pe_non (nomark _)) (pw_and1 (pt_cmpR op_gt (pe_callB (cr_sum rfl) (by rfl) b.sum (by decide +kernel) (pa_cons (pe_slice sl_list (pv 3) (po_some (pv 4)) po_none) pa_nil)) (pe_gi c.MAX_LENGTH) (nomark _)))))))) (pss_one ps_never) pss_nil))))))))
      (pss_cons (ps_if (pt_cmpR o_isNon (pv 4) pe_non (nomark _)) (pss_one (ps_ret (pe_def Frow_of_ticks (hr.mono (by decide)) pass0 (pa_cons (pe_def Fticks_of (hr.mono (by decide)) pass0 (pa_cons (pv 3) pa_nil)) pa_nil)))) pss_nil)
      (pss_cons (ps_if (pt_cmpR op_eq (pv 4) (pe_callB c_len (by rfl) b.len (by decide +kernel) (pa_cons (pv 3) pa_nil)) (nomark _)) (pss_one ps_never) pss_nil)
      (pss_one (ps_ret (pe_def Frow_of_laps (hr.mono (by decide)) pass0 (pa_cons (pe_ix ix_list (pv 3) pe_int (fun _ _ => rfl)) (pa_cons (pe_slice sl_list (pv 3) (po_some pe_int) (po_some (pv 4))) (pa_cons (pe_slice sl_list (pv 3) (po_some (pv 4)) po_none) pa_nil))))))))))))
theorem scReq : FnScope ["self", "other"] ["self", "other"] (defScope (inClass (top 24) 15)) := ⟨rfl, rfl, rfl, by decide +kernel, rfl, by decide +kernel, by decide +kernel⟩
theorem okReq {f : Addr} {fd : FuncData} (F : Fun K "__eq__" "Row.__eq__" (inClass (top 24) 15) f fd) (T : TyF K C) (c : Cst mg) (b : Blt mg) (R : RowC K mg C)  : FnOk P w K mg base CX0 1 f fd ["self", "other"] (spEq K C) := by
  refine F.ok scReq (fun vs H Q E h => ?_) (fun cdv A outer s H vs Q E hr h => ⟨tReq K C, ?_, (rdReq T vs H Q E h)⟩)
  · (repeat (first | (rw [h.1]; rfl) | (obtain ⟨_, h⟩ := h)))
  · have sc := scReq
    exact (pss_one (ps_ret (pe_and (pe_callB c_isi (by rfl) b.isinstance (by decide +kernel) (pa_cons (pv 1) (pa_cons (pe_gc R.gC) pa_nil))) (pe_one (pe_cmpR (op_eqD (rm64 hr)) (pe_fld (pv 0) rfl) (pe_fld (pv 1) rfl) (nomark _))))))
theorem scLequal : FnScope ["_law_actual", "_law_expected", "_law_k"] ["_law_actual", "_law_expected"] (defScope (top 38)) := ⟨rfl, rfl, rfl, by decide +kernel, rfl, by decide +kernel, by decide +kernel⟩
theorem okLequalZ {f : Addr} {fd : FuncData} (F : Fun K "_law_equal" "_law_equal" (top 38) f fd) (T : TyF K C) (c : Cst mg) (b : Blt mg) (R : RowC K mg C) : FnOk P w K mg base CX0 1 f fd ["_law_actual", "_law_expected"] (spU K C (upEqual0 0)) :=
  F.ok scLequal (fun vs H Q E h => by obtain ⟨_, _, _, _, _, _, h, _⟩ := h; exact h.elim) (fun cdv A outer s H vs Q E hr h => by obtain ⟨_, _, _, _, _, _, h, _⟩ := h; exact h.elim)
theorem okLequal0 {f : Addr} {fd : FuncData} (F : Fun K "_law_equal" "_law_equal" (top 38) f fd) (T : TyF K C) (c : Cst mg) (b : Blt mg) (R : RowC K mg C) (F_law_equal : DefN P w K mg base CX0 1 "_law_equal" ["_law_actual", "_law_expected"] (spU K C (upEqual0 0))) : FnOk P w K mg base CX0 2 f fd ["_law_actual", "_law_expected"] (spU K C (upEqualN 0)) := by
  have hl : ∀ ds P, upEqualN 0 ds P → ds.length = 2 := by
    intro ds P h; obtain ⟨_, _, rfl, _⟩ := h; rfl
  refine F.ok scLequal (fun vs H Q E h => len_of_sim hl h) (fun cdv A outer s H vs Q E hr h => ⟨tULequal K C (upEqual0 0), ?_, rd_of_sim simLequal (fun ds P h => by rw [hl ds P h]; decide) (rdUequal 0) h⟩)
  · have sc := scLequal
    exact (pss_cons (ps_if (pt_cmpR o_isNon (pv 1) pe_non (nomark _)) (pss_one (ps_ret (pe_cmpR o_isNon (pv 0) pe_non (nomark _)))) pss_nil)
      (pss_cons (ps_if (pt_val (pe_callB c_isi (by rfl) b.isinstance (by decide +kernel) (pa_cons (pv 1) (pa_cons (pe_bt b.bool) pa_nil)))) (pss_one (ps_ret (pe_and (pe_callB c_isi (by rfl) b.isinstance (by decide +kernel) (pa_cons (pv 0) (pa_cons (pe_bt b.bool) pa_nil))) (pe_one (pe_cmpR op_eq (pv 0) (pv 1) (nomark _)))))) pss_nil)
      (pss_cons (ps_if (pt_val (pe_callB c_isi (by rfl) b.isinstance (by decide +kernel) (pa_cons (pv 1) (pa_cons (pe_bt b.int) pa_nil)))) (pss_one (ps_ret (pe_and (pe_callB c_isi (by rfl) b.isinstance (by decide +kernel) (pa_cons (pv 0) (pa_cons (pe_bt b.int) pa_nil))) (pe_and (pe_not (pe_callB c_isi (by rfl) b.isinstance (by decide +kernel) (pa_cons (pv 0) (pa_cons (pe_bt b.bool) pa_nil)))) (pe_one (pe_cmpR op_eq (pv 0) (pv 1) (nomark _))))))) pss_nil)
      (pss_cons (ps_if (pt_val (pe_callB c_isi (by rfl) b.isinstance (by decide +kernel) (pa_cons (pv 1) (pa_cons (pe_bt b.str) pa_nil)))) (pss_one (ps_ret (pe_and (pe_callB c_isi (by rfl) b.isinstance (by decide +kernel) (pa_cons (pv 0) (pa_cons (pe_bt b.str) pa_nil))) (pe_one (pe_cmpR op_eq (pv 0) (pv 1) (nomark _)))))) pss_nil)
      (pss_cons (ps_if (pt_cmpR op_ne (pe_callB c_isi (by rfl) b.isinstance (by decide +kernel) (pa_cons (pv 1) (pa_cons (pe_bt b.tuple) pa_nil))) (pe_callB c_isi (by rfl) b.isinstance (by decide +kernel) (pa_cons (pv 0) (pa_cons (pe_bt b.tuple) pa_nil))) (nomark _)) (pss_one (ps_ret pe_bl)) pss_nil)
      (pss_cons (ps_if (pt_cmpR op_ne (pe_callB c_isi (by rfl) b.isinstance (by decide +kernel) (pa_cons (pv 1) (pa_cons (pe_bt b.list) pa_nil))) (pe_callB c_isi (by rfl) b.isinstance (by decide +kernel) (pa_cons (pv 0) (pa_cons (pe_bt b.list) pa_nil))) (nomark _)) (pss_one (ps_ret pe_bl)) pss_nil)
      (pss_cons (ps_if (pt_cmpR op_ne (pe_callB c_len (by rfl) b.len (by decide +kernel) (pa_cons (pv 0) pa_nil)) (pe_callB c_len (by rfl) b.len (by decide +kernel) (pa_cons (pv 1) pa_nil)) (nomark _)) (pss_one (ps_ret pe_bl)) pss_nil)
      (pss_one (ps_ret (pe_callB (cr_all rfl) (by rfl) b.all (by decide +kernel) (pa_cons (pe_lc (own := [("_law_k", 2)]) rfl sc.nd (pi_range1 (by rfl) b.range (pa_cons (pe_callB c_len (by rfl) b.len (by decide +kernel) (pa_cons (pv 1) pa_nil)) pa_nil)) (blkOk_by (by rfl)) (fun _ _ _ _ _ => (pg_name (i := 2) sc.nd rfl (.inl rfl))) (fun _ _ _ _ _ => pts_nil) (fun _ _ _ _ _ => (pe_def F_law_equal (hr.mono (by decide)) pass0 (pa_cons (pe_ix ix_seq (pv 0) (pv 2) (fun _ _ => rfl)) (pa_cons (pe_ix ix_seq (pv 1) (pv 2) (fun _ _ => rfl)) pa_nil))))) pa_nil)))))))))))
theorem okLequal1 {f : Addr} {fd : FuncData} (F : Fun K "_law_equal" "_law_equal" (top 38) f fd) (T : TyF K C) (c : Cst mg) (b : Blt mg) (R : RowC K mg C) (F_law_equal : DefN P w K mg base CX0 2 "_law_equal" ["_law_actual", "_law_expected"] (spU K C (upEqual0 1))) : FnOk P w K mg base CX0 3 f fd ["_law_actual", "_law_expected"] (spU K C (upEqualN 1)) := by
  have hl : ∀ ds P, upEqualN 1 ds P → ds.length = 2 := by
    intro ds P h; obtain ⟨_, _, rfl, _⟩ := h; rfl
  refine F.ok scLequal (fun vs H Q E h => len_of_sim hl h) (fun cdv A outer s H vs Q E hr h => ⟨tULequal K C (upEqual0 1), ?_, rd_of_sim simLequal (fun ds P h => by rw [hl ds P h]; decide) (rdUequal 1) h⟩)
  · have sc := scLequal
    exact (pss_cons (ps_if (pt_cmpR o_isNon (pv 1) pe_non (nomark _)) (pss_one (ps_ret (pe_cmpR o_isNon (pv 0) pe_non (nomark _)))) pss_nil)
      (pss_cons (ps_if (pt_val (pe_callB c_isi (by rfl) b.isinstance (by decide +kernel) (pa_cons (pv 1) (pa_cons (pe_bt b.bool) pa_nil)))) (pss_one (ps_ret (pe_and (pe_callB c_isi (by rfl) b.isinstance (by decide +kernel) (pa_cons (pv 0) (pa_cons (pe_bt b.bool) pa_nil))) (pe_one (pe_cmpR op_eq (pv 0) (pv 1) (nomark _)))))) pss_nil)
      (pss_cons (ps_if (pt_val (pe_callB c_isi (by rfl) b.isinstance (by decide +kernel) (pa_cons (pv 1) (pa_cons (pe_bt b.int) pa_nil)))) (pss_one (ps_ret (pe_and (pe_callB c_isi (by rfl) b.isinstance (by decide +kernel) (pa_cons (pv 0) (pa_cons (pe_bt b.int) pa_nil))) (pe_and (pe_not (pe_callB c_isi (by rfl) b.isinstance (by decide +kernel) (pa_cons (pv 0) (pa_cons (pe_bt b.bool) pa_nil)))) (pe_one (pe_cmpR op_eq (pv 0) (pv 1) (nomark _))))))) pss_nil)
      (pss_cons (ps_if (pt_val (pe_callB c_isi (by rfl) b.isinstance (by decide +kernel) (pa_cons (pv 1) (pa_cons (pe_bt b.str) pa_nil)))) (pss_one (ps_ret (pe_and (pe_callB c_isi (by rfl) b.isinstance (by decide +kernel) (pa_cons (pv 0) (pa_cons (pe_bt b.str) pa_nil))) (pe_one (pe_cmpR op_eq (pv 0) (pv 1) (nomark _)))))) pss_nil)
      (pss_cons (ps_if (pt_cmpR op_ne (pe_callB c_isi (by rfl) b.isinstance (by decide +kernel) (pa_cons (pv 1) (pa_cons (pe_bt b.tuple) pa_nil))) (pe_callB c_isi (by rfl) b.isinstance (by decide +kernel) (pa_cons (pv 0) (pa_cons (pe_bt b.tuple) pa_nil))) (nomark _)) (pss_one (ps_ret pe_bl)) pss_nil)
      (pss_cons (ps_if (pt_cmpR op_ne (pe_callB c_isi (by rfl) b.isinstance (by decide +kernel) (pa_cons (pv 1) (pa_cons (pe_bt b.list) pa_nil))) (pe_callB c_isi (by rfl) b.isinstance (by decide +kernel) (pa_cons (pv 0) (pa_cons (pe_bt b.list) pa_nil))) (nomark _)) (pss_one (ps_ret pe_bl)) pss_nil)
      (pss_cons (ps_if (pt_cmpR op_ne (pe_callB c_len (by rfl) b.len (by decide +kernel) (pa_cons (pv 0) pa_nil)) (pe_callB c_len (by rfl) b.len (by decide +kernel) (pa_cons (pv 1) pa_nil)) (nomark _)) (pss_one (ps_ret pe_bl)) pss_nil)
      (pss_one (ps_ret (pe_callB (cr_all rfl) (by rfl) b.all (by decide +kernel) (pa_cons (pe_lc (own := [("_law_k", 2)]) rfl sc.nd (pi_range1 (by rfl) b.range (pa_cons (pe_callB c_len (by rfl) b.len (by decide +kernel) (pa_cons (pv 1) pa_nil)) pa_nil)) (blkOk_by (by rfl)) (fun _ _ _ _ _ => (pg_name (i := 2) sc.nd rfl (.inl rfl))) (fun _ _ _ _ _ => pts_nil) (fun _ _ _ _ _ => (pe_def F_law_equal (hr.mono (by decide)) pass0 (pa_cons (pe_ix ix_seq (pv 0) (pv 2) (fun _ _ => rfl)) (pa_cons (pe_ix ix_seq (pv 1) (pv 2) (fun _ _ => rfl)) pa_nil))))) pa_nil)))))))))))
theorem okLequal2 {f : Addr} {fd : FuncData} (F : Fun K "_law_equal" "_law_equal" (top 38) f fd) (T : TyF K C) (c : Cst mg) (b : Blt mg) (R : RowC K mg C) (F_law_equal : DefN P w K mg base CX0 3 "_law_equal" ["_law_actual", "_law_expected"] (spU K C (upEqual0 2))) : FnOk P w K mg base CX0 4 f fd ["_law_actual", "_law_expected"] (spU K C (upEqualN 2)) := by
  have hl : ∀ ds P, upEqualN 2 ds P → ds.length = 2 := by
    intro ds P h; obtain ⟨_, _, rfl, _⟩ := h; rfl
  refine F.ok scLequal (fun vs H Q E h => len_of_sim hl h) (fun cdv A outer s H vs Q E hr h => ⟨tULequal K C (upEqual0 2), ?_, rd_of_sim simLequal (fun ds P h => by rw [hl ds P h]; decide) (rdUequal 2) h⟩)
  · have sc := scLequal
    exact (pss_cons (ps_if (pt_cmpR o_isNon (pv 1) pe_non (nomark _)) (pss_one (ps_ret (pe_cmpR o_isNon (pv 0) pe_non (nomark _)))) pss_nil)
      (pss_cons (ps_if (pt_val (pe_callB c_isi (by rfl) b.isinstance (by decide +kernel) (pa_cons (pv 1) (pa_cons (pe_bt b.bool) pa_nil)))) (pss_one (ps_ret (pe_and (pe_callB c_isi (by rfl) b.isinstance (by decide +kernel) (pa_cons (pv 0) (pa_cons (pe_bt b.bool) pa_nil))) (pe_one (pe_cmpR op_eq (pv 0) (pv 1) (nomark _)))))) pss_nil)
      (pss_cons (ps_if (pt_val (pe_callB c_isi (by rfl) b.isinstance (by decide +kernel) (pa_cons (pv 1) (pa_cons (pe_bt b.int) pa_nil)))) (pss_one (ps_ret (pe_and (pe_callB c_isi (by rfl) b.isinstance (by decide +kernel) (pa_cons (pv 0) (pa_cons (pe_bt b.int) pa_nil))) (pe_and (pe_not (pe_callB c_isi (by rfl) b.isinstance (by decide +kernel) (pa_cons (pv 0) (pa_cons (pe_bt b.bool) pa_nil)))) (pe_one (pe_cmpR op_eq (pv 0) (pv 1) (nomark _))))))) pss_nil)
      (pss_cons (ps_if (pt_val (pe_callB c_isi (by rfl) b.isinstance (by decide +kernel) (pa_cons (pv 1) (pa_cons (pe_bt b.str) pa_nil)))) (pss_one (ps_ret (pe_and (pe_callB c_isi (by rfl) b.isinstance (by decide +kernel) (pa_cons (pv 0) (pa_cons (pe_bt b.str) pa_nil))) (pe_one (pe_cmpR op_eq (pv 0) (pv 1) (nomark _)))))) pss_nil)
      (pss_cons (ps_if (pt_cmpR op_ne (pe_callB c_isi (by rfl) b.isinstance (by decide +kernel) (pa_cons (pv 1) (pa_cons (pe_bt b.tuple) pa_nil))) (pe_callB c_isi (by rfl) b.isinstance (by decide +kernel) (pa_cons (pv 0) (pa_cons (pe_bt b.tuple) pa_nil))) (nomark _)) (pss_one (ps_ret pe_bl)) pss_nil)
      (pss_cons (ps_if (pt_cmpR op_ne (pe_callB c_isi (by rfl) b.isinstance (by decide +kernel) (pa_cons (pv 1) (pa_cons (pe_bt b.list) pa_nil))) (pe_callB c_isi (by rfl) b.isinstance (by decide +kernel) (pa_cons (pv 0) (pa_cons (pe_bt b.list) pa_nil))) (nomark _)) (pss_one (ps_ret pe_bl)) pss_nil)
      (pss_cons (ps_if (pt_cmpR op_ne (pe_callB c_len (by rfl) b.len (by decide +kernel) (pa_cons (pv 0) pa_nil)) (pe_callB c_len (by rfl) b.len (by decide +kernel) (pa_cons (pv 1) pa_nil)) (nomark _)) (pss_one (ps_ret pe_bl)) pss_nil)
      (pss_one (ps_ret (pe_callB (cr_all rfl) (by rfl) b.all (by decide +kernel) (pa_cons (pe_lc (own := [("_law_k", 2)]) rfl sc.nd (pi_range1 (by rfl) b.range (pa_cons (pe_callB c_len (by rfl) b.len (by decide +kernel) (pa_cons (pv 1) pa_nil)) pa_nil)) (blkOk_by (by rfl)) (fun _ _ _ _ _ => (pg_name (i := 2) sc.nd rfl (.inl rfl))) (fun _ _ _ _ _ => pts_nil) (fun _ _ _ _ _ => (pe_def F_law_equal (hr.mono (by decide)) pass0 (pa_cons (pe_ix ix_seq (pv 0) (pv 2) (fun _ _ => rfl)) (pa_cons (pe_ix ix_seq (pv 1) (pv 2) (fun _ _ => rfl)) pa_nil))))) pa_nil)))))))))))
theorem okLequal3 {f : Addr} {fd : FuncData} (F : Fun K "_law_equal" "_law_equal" (top 38) f fd) (T : TyF K C) (c : Cst mg) (b : Blt mg) (R : RowC K mg C) (F_law_equal : DefN P w K mg base CX0 4 "_law_equal" ["_law_actual", "_law_expected"] (spU K C (upEqual0 3))) : FnOk P w K mg base CX0 5 f fd ["_law_actual", "_law_expected"] (spU K C (upEqualN 3)) := by
  have hl : ∀ ds P, upEqualN 3 ds P → ds.length = 2 := by
    intro ds P h; obtain ⟨_, _, rfl, _⟩ := h; rfl
  refine F.ok scLequal (fun vs H Q E h => len_of_sim hl h) (fun cdv A outer s H vs Q E hr h => ⟨tULequal K C (upEqual0 3), ?_, rd_of_sim simLequal (fun ds P h => by rw [hl ds P h]; decide) (rdUequal 3) h⟩)
  · have sc := scLequal
    exact (pss_cons (ps_if (pt_cmpR o_isNon (pv 1) pe_non (nomark _)) (pss_one (ps_ret (pe_cmpR o_isNon (pv 0) pe_non (nomark _)))) pss_nil)
      (pss_cons (ps_if (pt_val (pe_callB c_isi (by rfl) b.isinstance (by decide +kernel) (pa_cons (pv 1) (pa_cons (pe_bt b.bool) pa_nil)))) (pss_one (ps_ret (pe_and (pe_callB c_isi (by rfl) b.isinstance (by decide +kernel) (pa_cons (pv 0) (pa_cons (pe_bt b.bool) pa_nil))) (pe_one (pe_cmpR op_eq (pv 0) (pv 1) (nomark _)))))) pss_nil)
      (pss_cons (ps_if (pt_val (pe_callB c_isi (by rfl) b.isinstance (by decide +kernel) (pa_cons (pv 1) (pa_cons (pe_bt b.int) pa_nil)))) (pss_one (ps_ret (pe_and (pe_callB c_isi (by rfl) b.isinstance (by decide +kernel) (pa_cons (pv 0) (pa_cons (pe_bt b.int) pa_nil))) (pe_and (pe_not (pe_callB c_isi (by rfl) b.isinstance (by decide +kernel) (pa_cons (pv 0) (pa_cons (pe_bt b.bool) pa_nil)))) (pe_one (pe_cmpR op_eq (pv 0) (pv 1) (nomark _))))))) pss_nil)
      (pss_cons (ps_if (pt_val (pe_callB c_isi (by rfl) b.isinstance (by decide +kernel) (pa_cons (pv 1) (pa_cons (pe_bt b.str) pa_nil)))) (pss_one (ps_ret (pe_and (pe_callB c_isi (by rfl) b.isinstance (by decide +kernel) (pa_cons (pv 0) (pa_cons (pe_bt b.str) pa_nil))) (pe_one (pe_cmpR op_eq (pv 0) (pv 1) (nomark _)))))) pss_nil)
      (pss_cons (ps_if (pt_cmpR op_ne (pe_callB c_isi (by rfl) b.isinstance (by decide +kernel) (pa_cons (pv 1) (pa_cons (pe_bt b.tuple) pa_nil))) (pe_callB c_isi (by rfl) b.isinstance (by decide +kernel) (pa_cons (pv 0) (pa_cons (pe_bt b.tuple) pa_nil))) (nomark _)) (pss_one (ps_ret pe_bl)) pss_nil)
      (pss_cons (ps_if (pt_cmpR op_ne (pe_callB c_isi (by rfl) b.isinstance (by decide +kernel) (pa_cons (pv 1) (pa_cons (pe_bt b.list) pa_nil))) (pe_callB c_isi (by rfl) b.isinstance (by decide +kernel) (pa_cons (pv 0) (pa_cons (pe_bt b.list) pa_nil))) (nomark _)) (pss_one (ps_ret pe_bl)) pss_nil)
      (pss_cons (ps_if (pt_cmpR op_ne (pe_callB c_len (by rfl) b.len (by decide +kernel) (pa_cons (pv 0) pa_nil)) (pe_callB c_len (by rfl) b.len (by decide +kernel) (pa_cons (pv 1) pa_nil)) (nomark _)) (pss_one (ps_ret pe_bl)) pss_nil)
      (pss_one (ps_ret (pe_callB (cr_all rfl) (by rfl) b.all (by decide +kernel) (pa_cons (pe_lc (own := [("_law_k", 2)]) rfl sc.nd (pi_range1 (by rfl) b.range (pa_cons (pe_callB c_len (by rfl) b.len (by decide +kernel) (pa_cons (pv 1) pa_nil)) pa_nil)) (blkOk_by (by rfl)) (fun _ _ _ _ _ => (pg_name (i := 2) sc.nd rfl (.inl rfl))) (fun _ _ _ _ _ => pts_nil) (fun _ _ _ _ _ => (pe_def F_law_equal (hr.mono (by decide)) pass0 (pa_cons (pe_ix ix_seq (pv 0) (pv 2) (fun _ _ => rfl)) (pa_cons (pe_ix ix_seq (pv 1) (pv 2) (fun _ _ => rfl)) pa_nil))))) pa_nil)))))))))))
theorem scRfirst_laps : FnScope ["self", "ticks", "place"] ["self"] (defScope (inClass (top 24) 9)) := ⟨rfl, rfl, rfl, by decide +kernel, rfl, by decide +kernel, by decide +kernel⟩
theorem okRfirst_laps {f : Addr} {fd : FuncData} (F : Fun K "first_laps" "Row.first_laps" (inClass (top 24) 9) f fd) (T : TyF K C) (c : Cst mg) (b : Blt mg) (R : RowC K mg C)  : FnOk P w K mg base CX0 1 f fd ["self"] (spFlaps K C) := by
  refine F.ok scRfirst_laps (fun vs H Q E h => ?_) (fun cdv A outer s H vs Q E hr h => ⟨tRfirst_laps K, ?_, (rdRfirst_laps T vs H Q E h)⟩)
  · (repeat (first | (rw [h.1]; rfl) | (obtain ⟨_, h⟩ := h)))
  · have sc := scRfirst_laps
    exact (pss_cons (ps_set (i := 1) sc.nd rfl (.inr rfl) (pe_callTy c_list (by rfl) b.list (by decide +kernel) (pa_cons (pe_fld (pv 0) rfl) pa_nil)))
      (pss_cons (ps_if (pt_cmpR (op_neD (rm64 hr)) (pe_fld (pv 0) rfl) (pe_tup pa_nil) (nomark _)) (pss_one (ps_expr (pe_bm PySem.F.plainAttrs_list PySem.F.slot_list_append PySem.F.type_list_append mt_append (pv 1) (pa_cons (pe_op op_add (pe_fld (pv 0) rfl) (pe_ix ix_tup (pe_fld (pv 0) rfl) pe_int (fun _ _ => rfl))) pa_nil)))) pss_nil)
      (pss_one (ps_ret (pe_callTy c_tuple (by rfl) b.tuple (by decide +kernel) (pa_cons (pe_lc (own := [("place", 2)]) rfl sc.nd (pi_range1 (by rfl) b.range (pa_cons (pe_op op_sub (pe_callB c_len (by rfl) b.len (by decide +kernel) (pa_cons (pv 1) pa_nil)) pe_int) pa_nil)) (blkOk_by (by rfl)) (fun _ _ _ _ _ => (pg_name (i := 2) sc.nd rfl (.inl rfl))) (fun _ _ _ _ _ => pts_nil) (fun _ _ _ _ _ => (pe_op op_sub (pe_ix ix_list (pv 1) (pe_op op_add (pv 2) pe_int) (fun _ _ => rfl)) (pe_ix ix_list (pv 1) (pv 2) (fun _ _ => rfl))))) pa_nil))))))
theorem scRlaps : FnScope ["self", "found", "place", "offset", "is_last"] ["self"] (defScope (inClass (top 24) 8)) := ⟨rfl, rfl, rfl, by decide +kernel, rfl, by decide +kernel, by decide +kernel⟩
theorem okRlaps {f : Addr} {fd : FuncData} (F : Fun K "laps" "Row.laps" (inClass (top 24) 8) f fd) (T : TyF K C) (c : Cst mg) (b : Blt mg) (R : RowC K mg C)  : FnOk P w K mg base CX0 1 f fd ["self"] (spLaps K C) := by
  refine F.ok scRlaps (fun vs H Q E h => ?_) (fun cdv A outer s H vs Q E hr h => ⟨tRlaps K, ?_, (rdRlaps T vs H Q E h)⟩)
  · (repeat (first | (rw [h.1]; rfl) | (obtain ⟨_, h⟩ := h)))
  · have sc := scRlaps
    exact (pss_cons (ps_set (i := 1) sc.nd rfl (.inl rfl) (pe_lst pa_nil))
      (pss_cons (ps_for PassesOwn.never rfl (pi_enumA b.enumerate (pa_cons (pe_fld (pv 0) rfl) pa_nil)) (pg_tup (by rfl) (pgs_cons (pg_name (i := 2) sc.nd rfl (.inl rfl)) (pgs_cons (pg_name (i := 3) sc.nd rfl (.inl rfl)) pgs_nil))) (pss_cons (ps_set (i := 4) sc.nd rfl (.inl rfl) (pe_cmpR op_eq (pe_op op_add (pv 2) pe_int) (pe_callB c_len (by rfl) b.len (by decide +kernel) (pa_cons (pe_fld (pv 0) rfl) pa_nil)) (nomark _)))
      (pss_one (ps_expr (pe_bm PySem.F.plainAttrs_list PySem.F.slot_list_append PySem.F.type_list_append mt_append (pv 1) (pa_cons (pe_op op_sub (pe_ifExp (pt_val (pv 4)) (pe_op op_add (pe_ix ix_tup (pe_fld (pv 0) rfl) pe_int (fun _ _ => rfl)) (pe_fld (pv 0) rfl)) (pe_ix ix_tup (pe_fld (pv 0) rfl) (pe_op op_add (pv 2) pe_int) (fun _ _ => rfl))) (pv 3)) pa_nil))))))
      (pss_one (ps_ret (pe_callTy c_tuple (by rfl) b.tuple (by decide +kernel) (pa_cons (pv 1) pa_nil))))))
theorem scRtext : FnScope ["self", "start", "text", "lap"] ["self"] (defScope (inClass (top 24) 10)) := ⟨rfl, rfl, rfl, by decide +kernel, rfl, by decide +kernel, by decide +kernel⟩
theorem okRtext {f : Addr} {fd : FuncData} (F : Fun K "text" "Row.text" (inClass (top 24) 10) f fd) (T : TyF K C) (c : Cst mg) (b : Blt mg) (R : RowC K mg C) (Ffirst_laps : PropN P w K mg base CX0 1 C "first_laps" (spFlaps K C)) (Flaps : PropN P w K mg base CX0 1 C "laps" (spLaps K C)) : FnOk P w K mg base CX0 3 f fd ["self"] (spText K C) := by
  refine F.ok scRtext (fun vs H Q E h => ?_) (fun cdv A outer s H vs Q E hr h => ⟨tRtext K C, ?_, (rdRtext T vs H Q E h)⟩)
  · (repeat (first | (rw [h.1]; rfl) | (obtain ⟨_, h⟩ := h)))
  · have sc := scRtext
    exact (pss_cons (ps_if (pt_cmpR op_eq (pe_op op_add (pe_callB c_len (by rfl) b.len (by decide +kernel) (pa_cons (pe_fld (pv 0) rfl) pa_nil)) (pe_callB c_len (by rfl) b.len (by decide +kernel) (pa_cons (pe_fld (pv 0) rfl) pa_nil))) pe_int (nomark _)) (pss_one (ps_ret (pe_gs c.NEVER))) pss_nil)
      (pss_cons (ps_set (i := 1) sc.nd rfl (.inl rfl) (pe_ifExp (pt_cmpR op_gt (pe_callB c_len (by rfl) b.len (by decide +kernel) (pa_cons (pe_fld (pv 0) rfl) pa_nil)) pe_int (nomark _)) (pe_ix ix_tup (pe_fld (pv 0) rfl) pe_int (fun _ _ => rfl)) (pe_op op_add (pe_fld (pv 0) rfl) (pe_ix ix_tup (pe_fld (pv 0) rfl) pe_int (fun _ _ => rfl)))))
      (pss_cons (ps_set (i := 2) sc.nd rfl (.inl rfl) (pe_joined1 (pe_fmt (pv 1))))
      (pss_cons (ps_for PassesOwn.never rfl (pi_tup (pe_prp R.own.cl Ffirst_laps (hr.mono (by decide)) pass0 (pv 0))) (pg_name (i := 3) sc.nd rfl (.inl rfl)) (pss_one (ps_set (i := 2) sc.nd rfl (.inl rfl) (pe_join (.cons (pe_fmt (pv 2)) (.cons pe_str (.cons (pe_fmt (pv 3)) .nil)))))))
      (pss_cons (ps_if (pt_cmpR op_gt (pe_callB c_len (by rfl) b.len (by decide +kernel) (pa_cons (pe_fld (pv 0) rfl) pa_nil)) pe_int (nomark _)) (pss_cons (ps_set (i := 2) sc.nd rfl (.inl rfl) (pe_join (.cons (pe_fmt (pv 2)) (.cons pe_str .nil))))
      (pss_one (ps_for PassesOwn.never rfl (pi_tup (pe_prp R.own.cl Flaps (hr.mono (by decide)) pass0 (pv 0))) (pg_name (i := 3) sc.nd rfl (.inl rfl)) (pss_one (ps_set (i := 2) sc.nd rfl (.inl rfl) (pe_join (.cons (pe_fmt (pv 2)) (.cons pe_str (.cons (pe_fmt (pv 3)) .nil))))))))) pss_nil)
      (pss_one (ps_ret (pv 2))))))))
theorem scPis_int_in : FnScope ["value", "low", "high"] ["value", "low", "high"] (defScope (top 22)) := ⟨rfl, rfl, rfl, by decide +kernel, rfl, by decide +kernel, by decide +kernel⟩
theorem okPis_int_in {f : Addr} {fd : FuncData} (F : Fun K "is_int_in" "is_int_in" (top 22) f fd) (T : TyF K C) (c : Cst mg) (b : Blt mg) (R : RowC K mg C)  : FnOk P w K mg base CX0 1 f fd ["value", "low", "high"] (spIii K) := by
  refine F.ok scPis_int_in (fun vs H Q E h => ?_) (fun cdv A outer s H vs Q E hr h => ⟨tPis_int_in K, ?_, (rdPis_int_in T vs H Q E h)⟩)
  · (repeat (first | (rw [h.1]; rfl) | (obtain ⟨_, h⟩ := h)))
  · have sc := scPis_int_in
    exact (pss_one (ps_ret (pe_and (pe_callB c_isi (by rfl) b.isinstance (by decide +kernel) (pa_cons (pv 0) (pa_cons (pe_bt b.int) pa_nil))) (pe_and (pe_not (pe_callB c_isi (by rfl) b.isinstance (by decide +kernel) (pa_cons (pv 0) (pa_cons (pe_bt b.bool) pa_nil)))) (pe_one (pe_chain op_le op_le (pv 1) (pv 0) (pv 2)))))))
abbrev lawScope : Scope := defScope (top 39)
structure ErrG (mg : Str → Option Value) (CT : Addr) (cs : Nat → Addr) : Prop where
  cT : mg "TrackError" = some (.ref CT)
  c0 : mg "InvalidTick" = some (.ref (cs 0))
  c1 : mg "InvalidNumber" = some (.ref (cs 1))
  c2 : mg "NoTick" = some (.ref (cs 2))
  c3 : mg "TooLong" = some (.ref (cs 3))
  c4 : mg "NotEndless" = some (.ref (cs 4))
  c5 : mg "Contradiction" = some (.ref (cs 5))
  c6 : mg "InvalidName" = some (.ref (cs 6))
  c7 : mg "UnknownName" = some (.ref (cs 7))
  c8 : mg "InvalidRow" = some (.ref (cs 8))
  c9 : mg "TextFault" = some (.ref (cs 9))
  c10 : mg "InvalidOperation" = some (.ref (cs 10))
theorem scE : FnScope (errNx "_law_e") ["_law_call"] (defScope (top 36)) := ⟨rfl, rfl, rfl, by decide +kernel, rfl, by decide +kernel, by decide +kernel⟩
def errSuite : List Stmt := match defBody (top 36) with | .Try _ (.ExceptHandler _ _ su _ :: _) _ _ _ :: _ => su | _ => []
theorem suErrX {CT g : Addr} {cs : Nat → Addr} {cdg : Value} {A : Around} {stk : List PySem.Env} (b : Blt mg) (G : ErrG mg CT cs) (mVE : mg "ValueError" = none) {s : Shared} {H : Hp} {a : Addr} {oe : Obj} {E : Addr} {d : Option Addr} {pn : List (Addr × Obj)} (xE : XfE K E) (hz : Zc (.ref E) d oe) (hf : ∃ vs, oe.data = .fields vs) : PSs ((cxOf C8.CX0 P w K mg base (errNx "_law_e") "_law_error_of" (defScope (top 36)) g cdg A stk s H C8.E0).nox.suite a ((a, oe) :: pn)) errSuite (tErrX K E a d cs) := by
  have sc := scE
  exact (pss_cons (ps_set (i := 2) sc.nd rfl (.inl rfl) (pe_lst (pa_cons (pe_callB (call_isX xE.ec hz hf) (by rfl) b.isinstance (by decide +kernel) (pa_cons (pv 1) (pa_cons (pe_gc (G.c0)) pa_nil))) (pa_cons (pe_callB (call_isX xE.ec hz hf) (by rfl) b.isinstance (by decide +kernel) (pa_cons (pv 1) (pa_cons (pe_gc (G.c1)) pa_nil))) (pa_cons (pe_callB (call_isX xE.ec hz hf) (by rfl) b.isinstance (by decide +kernel) (pa_cons (pv 1) (pa_cons (pe_gc (G.c2)) pa_nil))) pa_nil)))))
      (pss_cons (ps_set (i := 2) sc.nd rfl (.inl rfl) (pe_op op_cat (pv 2) (pe_lst (pa_cons (pe_callB (call_isX xE.ec hz hf) (by rfl) b.isinstance (by decide +kernel) (pa_cons (pv 1) (pa_cons (pe_gc (G.c3)) pa_nil))) (pa_cons (pe_callB (call_isX xE.ec hz hf) (by rfl) b.isinstance (by decide +kernel) (pa_cons (pv 1) (pa_cons (pe_gc (G.c4)) pa_nil))) (pa_cons (pe_callB (call_isX xE.ec hz hf) (by rfl) b.isinstance (by decide +kernel) (pa_cons (pv 1) (pa_cons (pe_gc (G.c5)) pa_nil))) pa_nil))))))
      (pss_cons (ps_set (i := 2) sc.nd rfl (.inl rfl) (pe_op op_cat (pv 2) (pe_lst (pa_cons (pe_callB (call_isX xE.ec hz hf) (by rfl) b.isinstance (by decide +kernel) (pa_cons (pv 1) (pa_cons (pe_gc (G.c6)) pa_nil))) pa_nil))))
      (pss_cons (ps_set (i := 2) sc.nd rfl (.inl rfl) (pe_op op_cat (pv 2) (pe_lst (pa_cons (pe_callB (call_isX xE.ec hz hf) (by rfl) b.isinstance (by decide +kernel) (pa_cons (pv 1) (pa_cons (pe_gc (G.c7)) pa_nil))) (pa_cons (pe_callB (call_isX xE.ec hz hf) (by rfl) b.isinstance (by decide +kernel) (pa_cons (pv 1) (pa_cons (pe_gc (G.c8)) pa_nil))) (pa_cons (pe_callB (call_isX xE.ec hz hf) (by rfl) b.isinstance (by decide +kernel) (pa_cons (pv 1) (pa_cons (pe_gc (G.c9)) pa_nil))) pa_nil))))))
      (pss_cons (ps_set (i := 2) sc.nd rfl (.inl rfl) (pe_op op_cat (pv 2) (pe_lst (pa_cons (pe_callB (call_isX xE.ec hz hf) (by rfl) b.isinstance (by decide +kernel) (pa_cons (pv 1) (pa_cons (pe_gc (G.c10)) pa_nil))) pa_nil))))
      (pss_cons (ps_if (PW.pt (pw_or (pt_cmpR op_ne (pe_bm PySem.F.plainAttrs_list PySem.F.slot_list_count PySem.F.type_list_count mt_countF (pv 2) (pa_cons pe_bl pa_nil)) pe_int (nomark _)) (pw_or1 (pt_not (pt_val (pe_callB (call_isX xE.ec hz hf) (by rfl) b.isinstance (by decide +kernel) (pa_cons (pv 1) (pa_cons (pe_bt mVE) pa_nil)))))))) (pss_one (ps_ret (pe_tup (pa_cons pe_str (pa_cons pe_int pa_nil))))) pss_nil)
      (pss_cons (ps_set (i := 3) sc.nd rfl (.inl rfl) (pe_lst (pa_cons pe_str (pa_cons pe_str (pa_cons pe_str (pa_cons pe_str (pa_cons pe_str (pa_cons pe_str (pa_cons pe_str (pa_cons pe_str (pa_cons pe_str (pa_cons pe_str pa_nil))))))))))))
      (pss_cons (ps_set (i := 4) sc.nd rfl (.inl rfl) (pe_ix ix_list (pe_op op_cat (pv 3) (pe_lst (pa_cons pe_str pa_nil))) (pe_bm PySem.F.plainAttrs_list PySem.F.slot_list_index PySem.F.type_list_index mt_index (pv 2) (pa_cons pe_bl pa_nil)) (fun _ _ => rfl)))
      (pss_cons (ps_if (pt_cmpR op_eq (pv 4) pe_str (nomark _)) (pss_one (ps_ret (pe_tup (pa_cons (pv 4) (pa_cons (pe_tup (pa_cons (pe_xf xE.xf (xE.no "part" (by decide)) hz hf (pv 1)) (pa_cons (pe_xf xE.xf (xE.no "index" (by decide)) hz hf (pv 1)) pa_nil))) pa_nil))))) pss_nil)
      (pss_cons (ps_if (pt_cmpR op_eq (pv 4) pe_str (nomark _)) (pss_one (ps_ret (pe_tup (pa_cons (pv 4) (pa_cons (pe_xf xE.xf (xE.no "word" (by decide)) hz hf (pv 1)) pa_nil))))) pss_nil)
      (pss_one (ps_ret (pe_tup (pa_cons (pv 4) (pa_cons (pe_ifExp (pt_cmpR op_eq (pv 4) pe_str (nomark _)) (pe_xf xE.xf (xE.no "place" (by decide)) hz hf (pv 1)) pe_int) pa_nil)))))))))))))))
theorem scI8 : FnScope ["self", "part", "index"] ["self", "part", "index"] (defScope (inClass (top 3) 0)) := ⟨rfl, rfl, rfl, by decide +kernel, rfl, by decide +kernel, by decide +kernel⟩
theorem okI8 {f CT : Addr} {fd : FuncData} (F : Fun K "__init__" "InvalidRow.__init__" (inClass (top 3) 0) f fd) (gT : mg "TrackError" = some (.ref CT)) (rT : ClX.CRead K CT (.type "type")) (vT : PySem.W.findCls K (.ref CT) (.type "type") "__init__" = some (.val (.builtin "ValueError.__init__"))) : FnOk P w K mg base C8.CX0 1 f fd ["self", "part", "index"] (spXI K (xFlds 8)) := by
  refine F.ok scI8 (fun vs H Q E h => len_of_spXI h) (fun cdv A outer s H vs Q E hr h => ⟨tXI2 K "part" "index", ?_, rdXI2 (by decide) rfl h⟩)
  · have sc := scI8
    exact pss_cons (ps_expr (pe_cveinit (by rfl) gT rT vT (pa_cons (pv 0) (pa_cons (pv 1) (pa_cons (pv 2) pa_nil))))) (pss_cons (ps_ost (pv 0) (pv 1)) (pss_one (ps_ost (pv 0) (pv 2))))
theorem scEckl : FnScope ["part", "laps", "most", "longest", "index", "lap"] ["part", "laps", "most", "longest"] (defScope (top 25)) := ⟨rfl, rfl, rfl, by decide +kernel, rfl, by decide +kernel, by decide +kernel⟩
theorem okEckl {f : Addr} {cs : Nat → Addr} {fd : FuncData} (F : Fun K "check_laps" "check_laps" (top 25) f fd) (T : TyF K C) (c : Cst mg) (b : Blt mg) (R : RowC K mg C) (Fis_int_in : DefN P w K mg base CX0 1 "is_int_in" ["value", "low", "high"] (spU K C upIii)) (M8 : XMk P w K mg base cs 8 "InvalidRow") : FnOk P w K mg base (L2N.CX P w) 4 f fd ["part", "laps", "most", "longest"] (spE K C cs gCkl) := by
  have hl : ∀ ds P PX, gCkl ds P PX → ds.length = 4 := by
    intro ds P PX h; first | (obtain ⟨rfl, _⟩ := h; rfl) | (obtain ⟨_, rfl, _⟩ := h; rfl) | (obtain ⟨_, _, rfl, _⟩ := h; rfl) | (obtain ⟨_, _, _, rfl, _⟩ := h; rfl) | (obtain ⟨_, _, _, _, rfl, _⟩ := h; rfl) | (obtain ⟨_, _, _, _, _, rfl, _⟩ := h; rfl) | (obtain ⟨_, _, _, _, _, _, rfl, _⟩ := h; rfl)
  refine okXN F scEckl (fun vs H Q E h => len_of_spE hl h) (fun cdv A outer s H vs Q E hr h => ⟨tEckl K C cs E, ?_, rd_of_simE (fun B E Wu hK hC hE => simEckl M8.ox B E Wu hK hC hE) (fun ds P PX h => by rw [hl ds P PX h]; decide) rdEckl h⟩)
  · have sc := scEckl
    exact (pss_one (ps_for PassesOwn.leaving rfl (pi_enumA b.enumerate (pa_cons (pv 1) pa_nil)) (pg_tup (by rfl) (pgs_cons (pg_name (i := 4) sc.nd rfl (.inl rfl)) (pgs_cons (pg_name (i := 5) sc.nd rfl (.inl rfl)) pgs_nil))) (pss_one (ps_if (PW.pt (pw_or (pt_cmpR op_eq (pv 4) (pv 2) (nomark _)) (pw_or1 (pt_not (pt_val (pe_def Fis_int_in (hr.mono (by decide)) pass0 (pa_cons (pv 5) (pa_cons pe_int (pa_cons (pv 3) pa_nil))))))))) (pss_one (ps_raiseF M8 (hr.mono (by decide)) (by rfl) rfl (L2N.takes_of rfl rfl rfl rfl) (pa_cons (pv 0) (pa_cons (pv 4) pa_nil)))) pss_nil))))
theorem scEofl : FnScope ["cls", "start", "first", "laps"] ["cls", "start", "first", "laps"] (defScope (inClass (top 24) 4)) := ⟨rfl, rfl, rfl, by decide +kernel, rfl, by decide +kernel, by decide +kernel⟩
theorem okEofl {f D0 : Addr} {cs : Nat → Addr} {oc doc pm cdv ct : Value} {od an : Option Addr} {osl : Array (Option Value)} (lk : K.lookup f = some ⟨oc, od, .func (PySem.W.fnOf "of_laps" "Row.of_laps" (defArgs (inClass (top 24) 4)) (defBody (inClass (top 24) 4)) (defScope (inClass (top 24) 4)) .none (.ref D0) doc pm an cdv ct), osl⟩) (hcd : PySem.W.codeIn K cdv "Row.of_laps" = true) (hD : PySem.W.nsIn K D0 "first" = some (some (.ref T0))) (T : TyF K C) (c : Cst mg) (b : Blt mg) (R : RowC K mg C) (KK : RowK K C) (Fis_int_in : DefN P w K mg base CX0 1 "is_int_in" ["value", "low", "high"] (spU K C upIii)) (Frow_of_laps : DefN P w K mg base CX0 5 "row_of_laps" ["start", "first", "laps"] (spU K C upRowOfLaps)) (Xckl : DefN P w K mg base (L2N.CX P w) 4 "check_laps" ["part", "laps", "most", "longest"] (spE K C cs gCkl)) (M8 : XMk P w K mg base cs 8 "InvalidRow") : FnRK P w K mg base (L2N.CX P w) 8 f [] (starKSp 2 (.ref T0) (spE K C cs gOfl)) ∧ FnRK P w K mg base (L2N.CX P w) 8 f ["first"] (starKSp 2 (.ref T0) (spE K C cs gOfl)) := by
  have hl : ∀ ds P PX, gOfl ds P PX → ds.length = 4 := by
    intro ds P PX h; obtain ⟨_, _, _, rfl, _⟩ := h; rfl
  have sc := scEofl
  refine okCmK (k := 7) (x1 := "cls") (x2 := "start") (kn := "first") (pv := "laps") lk hcd sc cxUpN hD (fun a b rest => match a, b, rest with | a, b, [] => ⟨_, _, _, _, _, _, rfl, rfl, rfl⟩ | a, b, c :: l => ⟨_, _, _, _, _, _, rfl, rfl, rfl⟩) (fun a b u rest => match a, b, u, rest with | a, b, u, [] => rfl | a, b, u, c :: l => rfl) fun A outer s H vs Q E hr h => ⟨tEofl K C cs E, ?_, rd_of_simE (fun B E Wu hK hC hE => simEofl KK M8.ox B E Wu hK hC hE) (fun ds P PX h => by rw [hl ds P PX h]; decide) rdEofl h⟩
  exact (pss_cons (ps_if (pt_not (pt_val (pe_def Fis_int_in (hr.mono (by decide)) pass0 (pa_cons (pv 1) (pa_cons pe_int (pa_cons (ClX.pe_cval (pv 0)) pa_nil)))))) (pss_one (ps_raiseF M8 (hr.mono (by decide)) (by rfl) rfl (L2N.takes_of rfl rfl rfl rfl) (pa_cons pe_str (pa_cons pe_int pa_nil)))) pss_nil)
      (pss_cons (ps_expr (pe_def Xckl (hr.mono (by decide)) passN (pa_cons pe_str (pa_cons (pv 3) (pa_cons (ClX.pe_cval (pv 0)) (pa_cons (ClX.pe_cval (pv 0)) pa_nil))))))
      (pss_cons (ps_if (pt_cmpR (op_eqD (rm64 hr)) (pv 3) (pe_tup pa_nil) (nomark _)) (pss_one (ps_raiseF M8 (hr.mono (by decide)) (by rfl) rfl (L2N.takes_of rfl rfl rfl rfl) (pa_cons pe_str (pa_cons pe_int pa_nil)))) pss_nil)
      (pss_cons (ps_if (pt_not (pt_val (pe_callB c_isi (by rfl) b.isinstance (by decide +kernel) (pa_cons (pv 2) (pa_cons (pe_bt b.tuple) pa_nil))))) (pss_one (ps_raiseF M8 (hr.mono (by decide)) (by rfl) rfl (L2N.takes_of rfl rfl rfl rfl) (pa_cons pe_str (pa_cons pe_int pa_nil)))) pss_nil)
      (pss_cons (ps_expr (pe_def Xckl (hr.mono (by decide)) passN (pa_cons pe_str (pa_cons (pv 2) (pa_cons (ClX.pe_cval (pv 0)) (pa_cons (ClX.pe_cval (pv 0)) pa_nil))))))
      (pss_one (ps_ret (pe_def Frow_of_laps (hr.mono (by decide)) pass0 (pa_cons (pv 1) (pa_cons (pv 2) (pa_cons (pv 3) pa_nil)))))))))))
abbrev lawN : List Str := ["_law_script", "_law_d", "_law_far", "_law_odd", "_law_calls", "_law_lap", "_law_cases", "_law_call", "_law_expected", "_law_most", "_law_one", "_law_two"]
def lawLS : Nat → Lm := fun j => match j with
  | 0 => lmOf false (exAt (stVal (stAt (defBody (top 39)) 3)) 0)
  | 1 => lmOf true (exAt (stVal (stAt (defBody (top 39)) 3)) 1)
  | 2 => lmOf true (exAt (stVal (stAt (defBody (top 39)) 3)) 2)
  | 3 => lmOf false (exAt (exAt (stVal (stAt (defBody (top 39)) 6)) 0) 0)
  | 4 => lmOf true (exAt (exAt (stVal (stAt (defBody (top 39)) 6)) 1) 0)
  | 5 => lmOf true (exAt (exAt (exAt (stVal (stAt (defBody (top 39)) 7)) 1) 0) 0)
  | 6 => lmOf true (exAt (exAt (exAt (stVal (stAt (defBody (top 39)) 8)) 1) 0) 0)
  | 7 => lmOf true (exAt (exAt (exAt (stVal (stAt (defBody (top 39)) 9)) 1) 0) 0)
  | 8 => lmOf true (exAt (exAt (exAt (stVal (stAt (defBody (top 39)) 10)) 1) 0) 0)
  | 9 => lmOf true (exAt (exAt (exAt (stVal (stAt (defBody (top 39)) 11)) 1) 0) 0)
  | 10 => lmOf true (exAt (exAt (exAt (stVal (stAt (defBody (top 39)) 12)) 1) 0) 0)
  | 11 => lmOf true (exAt (exAt (exAt (stVal (stAt (defBody (top 39)) 13)) 1) 0) 0)
  | _ => lmOf false xNil
theorem LSok : ∀ j, j < 12 → LmS lawN lawScope (lawLS j).scope := fun j hj => match j, hj with
  | 0, _ => lmS_by (by decide +kernel)
  | 1, _ => lmS_by (by decide +kernel)
  | 2, _ => lmS_by (by decide +kernel)
  | 3, _ => lmS_by (by decide +kernel)
  | 4, _ => lmS_by (by decide +kernel)
  | 5, _ => lmS_by (by decide +kernel)
  | 6, _ => lmS_by (by decide +kernel)
  | 7, _ => lmS_by (by decide +kernel)
  | 8, _ => lmS_by (by decide +kernel)
  | 9, _ => lmS_by (by decide +kernel)
  | 10, _ => lmS_by (by decide +kernel)
  | 11, _ => lmS_by (by decide +kernel)
  | j + 12, h => absurd h (by omega)
theorem LBok : ∀ j, j < 12 → LmB (lawLS j) "law.<locals>.<lambda>" := fun j hj => match j, hj with
  | 0, _ => lmB_no rfl (fun _ _ _ _ _ => rfl)
  | 1, _ => lmB_df "_law_a" rfl rfl (fun _ _ _ _ _ _ _ => ⟨_, rfl, rfl⟩)
  | 2, _ => lmB_df "_law_b" rfl rfl (fun _ _ _ _ _ _ _ => ⟨_, rfl, rfl⟩)
  | 3, _ => lmB_no rfl (fun _ _ _ _ _ => rfl)
  | 4, _ => lmB_df "_law_a" rfl rfl (fun _ _ _ _ _ _ _ => ⟨_, rfl, rfl⟩)
  | 5, _ => lmB_df "_law_b" rfl rfl (fun _ _ _ _ _ _ _ => ⟨_, rfl, rfl⟩)
  | 6, _ => lmB_df "_law_c" rfl rfl (fun _ _ _ _ _ _ _ => ⟨_, rfl, rfl⟩)
  | 7, _ => lmB_df "_law_e" rfl rfl (fun _ _ _ _ _ _ _ => ⟨_, rfl, rfl⟩)
  | 8, _ => lmB_df "_law_f" rfl rfl (fun _ _ _ _ _ _ _ => ⟨_, rfl, rfl⟩)
  | 9, _ => lmB_df "_law_g" rfl rfl (fun _ _ _ _ _ _ _ => ⟨_, rfl, rfl⟩)
  | 10, _ => lmB_df "_law_h" rfl rfl (fun _ _ _ _ _ _ _ => ⟨_, rfl, rfl⟩)
  | 11, _ => lmB_df "_law_i" rfl rfl (fun _ _ _ _ _ _ _ => ⟨_, rfl, rfl⟩)
  | j + 12, h => absurd h (by omega)
theorem okErrN {g CT : Addr} {cs : Nat → Addr} {ocE kVE docE pmE cdE ctE : Value} {odE anE : Option Addr} {oslE : Array (Option Value)} (b : Blt mg) (lkE : K.lookup g = some ⟨ocE, odE, .func (PySem.W.fnOf "_law_error_of" "_law_error_of" (defArgs (top 36)) (defBody (top 36)) (defScope (top 36)) .none kVE docE pmE anE cdE ctE), oslE⟩) (cE : PySem.W.codeIn K cdE "_law_error_of" = true) (G : ErrG mg CT cs) (mVE : mg "ValueError" = none) : FnOk P w K mg base C8.CX0 10 g (PySem.W.fnOf "_law_error_of" "_law_error_of" (defArgs (top 36)) (defBody (top 36)) (defScope (top 36)) .none kVE docE pmE anE cdE ctE) ["_law_call"] (spErrX K CT cs (Thk P w K mg base 9)) :=
  TkL.okErrX lkE cE scE (.inl rfl) fun A outer s H env q => err_givesX (by decide) (by rfl) G.cT (by rfl) fun s H a oe E d pn xE hz hf => suErrX b G mVE xE hz hf
theorem scAllr : FnScope ["_law_calls", "_law_expected", "_law_call"] ["_law_calls", "_law_expected"] (defScope (top 37)) := ⟨rfl, rfl, rfl, by decide +kernel, rfl, by decide +kernel, by decide +kernel⟩
theorem okAllr {g CT : Addr} {cs : Nat → Addr} {fd : FuncData} (F : Fun K "_law_all_raise" "_law_all_raise" (top 37) g fd) (F_err : DefN P w K mg base C8.CX0 10 "_law_error_of" ["_law_call"] (spErrX K CT cs (Thk P w K mg base 9))) : FnOk P w K mg base C8.CX0 11 g fd ["_law_calls", "_law_expected"] (spAllX K CT cs (Thk P w K mg base 9)) := by
  refine F.ok scAllr (fun vs H Q E h => by obtain ⟨_, _, _, rfl, _⟩ := h; rfl) (fun cdv A outer s H vs Q E hr h => ⟨tAllr K (spErrX K CT cs (Thk P w K mg base 9)), ?_, rdAllrX h⟩)
  · have sc := scAllr
    exact (pss_one (ps_ret (pe_cmpR (op_eqD (rm64 hr)) (pe_lc (own := [("_law_call", 2)]) rfl sc.nd (pi_list (pv 0)) (blkOk_by (by rfl)) (fun _ _ _ _ _ => (pg_name (i := 2) sc.nd rfl (.inl rfl))) (fun _ _ _ _ _ => (pts_one (pt_cmpR (op_neD (rm64 hr)) (pe_def F_err (hr.mono (by decide)) pass0 (pa_cons (pv 2) pa_nil)) (pv 1) (nomark _)))) (fun _ _ _ _ _ => (pv 2))) (pe_lst pa_nil) (nomark _))))
theorem scPlaw : FnScope ["_law_script", "_law_d", "_law_far", "_law_odd", "_law_calls", "_law_lap", "_law_cases", "_law_call", "_law_expected", "_law_most", "_law_one", "_law_two"] ["_law_script"] (defScope (top 39)) := ⟨rfl, rfl, rfl, by decide +kernel, rfl, by decide +kernel, by decide +kernel⟩
abbrev lamT (PT : Addr) : List (Addr × Str) := [(PT, "law.<locals>.<lambda>")]
theorem okPlaw {f g cL PT CT : Addr} {cs : Nat → Addr} {ocL kVL docL pmL ctL ocE kVE docE pmE cdE ctE : Value} {odL anL odE anE : Option Addr} {oslL oslE : Array (Option Value)} (lkL : K.lookup f = some ⟨ocL, odL, .func (PySem.W.fnOf "law" "law" (defArgs (top 39)) (defBody (top 39)) (defScope (top 39)) .none kVL docL pmL anL (.ref cL) ctL), oslL⟩) (hcdL : PySem.W.codeIn K (.ref cL) "law" = true) (TY0 : TyF K C) (c : Cst mg) (b : Blt mg) (R : RowC K mg C) (KK : RowK K C) (TN : TupN K T0) (F_law_random : DefN P w K mg base CX0 1 "_law_random" ["_law_script", "_law_salt"] (spRandom K)) (F_law_below : DefN P w K mg base CX0 1 "_law_below" ["_law_d", "_law_limit"] (spU K C upBelow)) (Fparse : CmN P w K mg base CX0 6 C "parse" (spU K C upParse)) (Feq : MetN P w K mg base CX0 1 C "__eq__" ["self", "other"] (spU K C upEq)) (F_law_equal : DefN P w K mg base CX0 5 "_law_equal" ["_law_actual", "_law_expected"] (spU K C upEqual)) (Ftext : PropN P w K mg base CX0 3 C "text" (spU K C upText)) (aE : mg "_law_error_of" = some (.ref g)) (kE : PySem.W.keepIn K (.ref g) = true) (lkE : K.lookup g = some ⟨ocE, odE, .func (PySem.W.fnOf "_law_error_of" "_law_error_of" (defArgs (top 36)) (defBody (top 36)) (defScope (top 36)) .none kVE docE pmE anE cdE ctE), oslE⟩) (cE : PySem.W.codeIn K cdE "_law_error_of" = true) (bE : L2.Binds K (PySem.W.fnOf "_law_error_of" "_law_error_of" (defArgs (top 36)) (defBody (top 36)) (defScope (top 36)) .none kVE docE pmE anE cdE ctE) ["_law_call"] []) (hTB : LamX.TabB base mg cL PT) (G : ErrG mg CT cs) (mVE : mg "ValueError" = none) (X_ofl0 : CmK P w K mg base (L2N.CX P w) 8 C "of_laps" [] (starKSp 2 (.ref T0) (spE K C cs gOfl))) (X_ofl1 : CmK P w K mg base (L2N.CX P w) 8 C "of_laps" ["first"] (starKSp 2 (.ref T0) (spE K C cs gOfl)))   (nX8 : ErrX K cs 8 ∧ PySem.W.exmOne K (.ref (cs 8)) (.ref CT) = some true) (F_err : DefN P w K mg base C8.CX0 10 "_law_error_of" ["_law_call"] (spErrX K CT cs (Thk P w K mg base 9))) (F_all : DefN P w K mg base C8.CX0 11 "_law_all_raise" ["_law_calls", "_law_expected"] (spAllX K CT cs (Thk P w K mg base 9))) : FnOk P w K mg base CX0 12 f (PySem.W.fnOf "law" "law" (defArgs (top 39)) (defBody (top 39)) (defScope (top 39)) .none kVL docL pmL anL (.ref cL) ctL) ["_law_script"] (spLawT K (lamT PT)) := by
  refine fn_of lkL hcdL scPlaw (fun vs H Q E h => ?_) (fun A outer s H vs Q E hr h => ⟨tUPlaw K C T0 CT cs (lamT PT) (fun j H1 f1 => j < 12 ∧ Rdy "law.<locals>.<lambda>" (lawLS j) (cloFrom (envOfC "law" lawScope s.heap.objs.size f (.ref cL)).cells (lawLS j).scope.names []) H1 f1), PSs.nox ?_, law_restT (n := 10) (T := lamT PT) (fun B e1 e2 e3 => simPlawR TN KK (List.cons_ne_nil _ _) stR_rdy nX8 B e1 e2 e3) 8 ⟨by decide, by decide⟩ lw08 h.1 h.2 (by rfl)⟩)
  · obtain ⟨⟨_, _, rfl, _⟩, _⟩ := h; rfl
  · have sc := scPlaw
    have LB : ∀ j, j < 12 → ∀ (A1 : Around) (outer1 : List PySem.Env) (s1 : Shared) (H1 : Hp) (E1 : XK) (f1 c1 : Addr), Room 8 (A1.deeper (lamEnv (cxOf CX0 P w K mg base lawN "law" lawScope f (.ref cL) A outer s H E).nox (lawLS j).scope s1.heap.objs.size f1 c1)) → PE (lamCx (cxOf CX0 P w K mg base lawN "law" lawScope f (.ref cL) A outer s H E).nox A1 outer1 s1 H1 E1 (lawLS j).scope f1 c1) (lawLS j).body ((rt08 K C T0 cs) j E1) := fun j hj => match j, hj with
      | 0, _ => fun _ _ _ _ _ _ _ hr => (pe_cmK0 X_ofl0 (hr.mono (by decide)) passLamN (pe_gc R.gC) (pa_cons (pv 3) (pa_cons pe_int pa_nil)) pk_nil)
      | 1, _ => fun _ _ _ _ _ _ _ hr => (pe_cmK0 X_ofl0 (hr.mono (by decide)) passLamN (pe_gc R.gC) (pa_cons (pv 3) pa_nil) pk_nil)
      | 2, _ => fun _ _ _ _ _ _ _ hr => (pe_cmK1 X_ofl1 (hr.mono (by decide)) passLamN (pe_gc R.gC) (pa_cons (pv 3) (pa_cons pe_int pa_nil)) (pk_cons pe_int pk_nil))
      | 3, _ => fun _ _ _ _ _ _ _ hr => (pe_cmK0 X_ofl0 (hr.mono (by decide)) passLamN (pe_gc R.gC) (pa_cons pe_int pa_nil) pk_nil)
      | 4, _ => fun _ _ _ _ _ _ _ hr => (pe_cmK0 X_ofl0 (hr.mono (by decide)) passLamN (pe_gc R.gC) (pa_cons pe_int (pa_cons (pv 5) (pa_cons (pv 5) pa_nil))) pk_nil)
      | 5, _ => fun _ _ _ _ _ _ _ hr => (pe_cmK1 X_ofl1 (hr.mono (by decide)) passLamN (pe_gc R.gC) (pa_cons pe_int (pa_cons pe_int (pa_cons pe_int (pa_cons (pv 5) (pa_cons pe_int pa_nil))))) (pk_cons (pe_tup (pa_cons pe_int pa_nil)) pk_nil))
      | 6, _ => fun _ _ _ _ _ _ _ hr => (pe_cmK0 X_ofl0 (hr.mono (by decide)) passLamN (pe_gc R.gC) (pa_cons pe_int (pa_cons pe_int (pa_cons pe_int (pa_cons pe_int (pa_cons pe_int (pa_cons pe_int (pa_cons pe_int (pa_cons pe_int (pa_cons pe_int (pa_cons pe_int (pa_cons pe_int (pa_cons pe_int (pa_cons pe_int (pa_cons (pv 5) pa_nil)))))))))))))) pk_nil)
      | 7, _ => fun _ _ _ _ _ _ _ hr => (pe_cmK0 X_ofl0 (hr.mono (by decide)) passLamN (pe_gc R.gC) (pa_cons pe_int (pa_cons pe_int (pa_cons pe_int (pa_cons pe_int (pa_cons pe_int (pa_cons pe_int (pa_cons pe_int (pa_cons pe_int (pa_cons pe_int (pa_cons pe_int (pa_cons pe_int (pa_cons pe_int (pa_cons pe_int (pa_cons pe_int pa_nil)))))))))))))) pk_nil)
      | 8, _ => fun _ _ _ _ _ _ _ hr => (pe_cmK1 X_ofl1 (hr.mono (by decide)) passLamN (pe_gc R.gC) (pa_cons pe_int (pa_cons pe_int pa_nil)) (pk_cons (pe_tup (pa_cons (pv 5) (pa_cons pe_int pa_nil))) pk_nil))
      | 9, _ => fun _ _ _ _ _ _ _ hr => (pe_cmK1 X_ofl1 (hr.mono (by decide)) passLamN (pe_gc R.gC) (pa_cons pe_int (pa_cons pe_int pa_nil)) (pk_cons (pe_tup (pa_cons pe_int (pa_cons pe_int (pa_cons (pv 5) pa_nil)))) pk_nil))
      | 10, _ => fun _ _ _ _ _ _ _ hr => (pe_cmK1 X_ofl1 (hr.mono (by decide)) passLamN (pe_gc R.gC) (pa_cons pe_int (pa_cons pe_int pa_nil)) (pk_cons (pe_op op_repA (pe_tup (pa_cons pe_int pa_nil)) pe_int) pk_nil))
      | 11, _ => fun _ _ _ _ _ _ _ hr => (pe_cmK1 X_ofl1 (hr.mono (by decide)) passLamN (pe_gc R.gC) (pa_cons pe_int (pa_cons pe_int pa_nil)) (pk_cons (pe_ix ix_list (pe_lst (pa_cons (pe_lst (pa_cons pe_int pa_nil)) (pa_cons pe_int (pa_cons pe_non (pa_cons pe_str (pa_cons pe_bl pa_nil)))))) (pe_op op_mod (pv 2) pe_int) (fun _ _ => rfl)) pk_nil))
      | j + 12, h => absurd h (by omega)
    exact (pss_cons (ps_set (i := 1) sc.nd rfl (.inl rfl) (pe_def F_law_random (hr.mono (by decide)) pass0 (pa_cons (pv 0) (pa_cons pe_int pa_nil))))
      (pss_cons (ps_set (i := 2) sc.nd rfl (.inr rfl) (pe_op op_mul (pe_def F_law_below (hr.mono (by decide)) pass0 (pa_cons (pv 1) (pa_cons pe_int pa_nil))) (pe_def F_law_below (hr.mono (by decide)) pass0 (pa_cons (pv 1) (pa_cons pe_int pa_nil)))))
      (pss_cons (ps_set (i := 3) sc.nd rfl (.inr rfl) (pe_ix ix_list (pe_lst (pa_cons (pe_op op_sub (pe_op op_sub pe_int pe_int) (pv 2)) (pa_cons (pe_op op_add pe_int (pv 2)) (pa_cons pe_non (pa_cons pe_bl (pa_cons pe_str (pa_cons (pe_tup (pa_cons pe_int pa_nil)) pa_nil))))))) (pe_def F_law_below (hr.mono (by decide)) pass0 (pa_cons (pv 1) (pa_cons pe_int pa_nil))) (fun _ _ => rfl)))
      (pss_cons (ps_set (i := 4) sc.nd rfl (.inl rfl) (pe_lst (pa_cons (pe_imp (pe_lm (m := lawLS 0) (N := lawN) hTB rfl (List.mem_singleton.mpr rfl) (fun p hp _ => congrArg Prod.snd (List.mem_singleton.mp hp)) (LSok 0 (by decide)) rfl rfl) (tLm_imp fun H f r => ⟨by decide, r⟩)) (pa_cons (pe_imp (pe_lmd (m := lawLS 1) (N := lawN) hTB rfl (List.mem_singleton.mpr rfl) (fun p hp _ => congrArg Prod.snd (List.mem_singleton.mp hp)) (LSok 1 (by decide)) rfl rfl rfl) (tLm_imp fun H f r => ⟨by decide, r⟩)) (pa_cons (pe_imp (pe_lmd (m := lawLS 2) (N := lawN) hTB rfl (List.mem_singleton.mpr rfl) (fun p hp _ => congrArg Prod.snd (List.mem_singleton.mp hp)) (LSok 2 (by decide)) rfl rfl rfl) (tLm_imp fun H f r => ⟨by decide, r⟩)) pa_nil)))))
      (pss_cons (ps_if (pt_not (pt_val (pe_allrNX (n := 12) (Ls := lawLS) (RT := (rt08 K C T0 cs)) (kt := 8) (kA := 11) (fun _ => rfl) F_all (hr.mono (by decide)) LSok LBok LB (fun x c e => vis_of (sc := lawScope) (by decide +kernel) e) (pa_cons (pv 4) (pa_cons (pe_tup (pa_cons pe_str (pa_cons (pe_tup (pa_cons pe_str (pa_cons pe_int pa_nil))) pa_nil))) pa_nil))))) (pss_one (ps_ret pe_bl)) pss_nil)
      (pss_cons (ps_set (i := 5) sc.nd rfl (.inr rfl) (pe_ix ix_list (pe_lst (pa_cons pe_int (pa_cons (pe_op op_sub pe_int (pv 2)) (pa_cons (pe_op op_add pe_int (pv 2)) (pa_cons pe_non (pa_cons pe_bl (pa_cons pe_str pa_nil))))))) (pe_def F_law_below (hr.mono (by decide)) pass0 (pa_cons (pv 1) (pa_cons pe_int pa_nil))) (fun _ _ => rfl)))
      (pss_cons (ps_set (i := 6) sc.nd rfl (.inl rfl) (pe_lst (pa_cons (pe_tup (pa_cons (pe_imp (pe_lm (m := lawLS 3) (N := lawN) hTB rfl (List.mem_singleton.mpr rfl) (fun p hp _ => congrArg Prod.snd (List.mem_singleton.mp hp)) (LSok 3 (by decide)) rfl rfl) (tLm_imp fun H f r => ⟨by decide, r⟩)) (pa_cons (pe_tup (pa_cons pe_str (pa_cons pe_int pa_nil))) pa_nil))) (pa_cons (pe_tup (pa_cons (pe_imp (pe_lmd (m := lawLS 4) (N := lawN) hTB rfl (List.mem_singleton.mpr rfl) (fun p hp _ => congrArg Prod.snd (List.mem_singleton.mp hp)) (LSok 4 (by decide)) rfl rfl rfl) (tLm_imp fun H f r => ⟨by decide, r⟩)) (pa_cons (pe_tup (pa_cons pe_str (pa_cons pe_int pa_nil))) pa_nil))) pa_nil))))
      (pss_cons (ps_set (i := 6) sc.nd rfl (.inl rfl) (pe_op op_cat (pv 6) (pe_lst (pa_cons (pe_tup (pa_cons (pe_imp (pe_lmd (m := lawLS 5) (N := lawN) hTB rfl (List.mem_singleton.mpr rfl) (fun p hp _ => congrArg Prod.snd (List.mem_singleton.mp hp)) (LSok 5 (by decide)) rfl rfl rfl) (tLm_imp fun H f r => ⟨by decide, r⟩)) (pa_cons (pe_tup (pa_cons pe_str (pa_cons pe_int pa_nil))) pa_nil))) pa_nil))))
      (pss_cons (ps_set (i := 6) sc.nd rfl (.inl rfl) (pe_op op_cat (pv 6) (pe_lst (pa_cons (pe_tup (pa_cons (pe_imp (pe_lmd (m := lawLS 6) (N := lawN) hTB rfl (List.mem_singleton.mpr rfl) (fun p hp _ => congrArg Prod.snd (List.mem_singleton.mp hp)) (LSok 6 (by decide)) rfl rfl rfl) (tLm_imp fun H f r => ⟨by decide, r⟩)) (pa_cons (pe_tup (pa_cons pe_str (pa_cons pe_int pa_nil))) pa_nil))) pa_nil))))
      (pss_cons (ps_set (i := 6) sc.nd rfl (.inl rfl) (pe_op op_cat (pv 6) (pe_lst (pa_cons (pe_tup (pa_cons (pe_imp (pe_lmd (m := lawLS 7) (N := lawN) hTB rfl (List.mem_singleton.mpr rfl) (fun p hp _ => congrArg Prod.snd (List.mem_singleton.mp hp)) (LSok 7 (by decide)) rfl rfl rfl) (tLm_imp fun H f r => ⟨by decide, r⟩)) (pa_cons (pe_tup (pa_cons pe_str (pa_cons pe_int pa_nil))) pa_nil))) pa_nil))))
      (pss_cons (ps_set (i := 6) sc.nd rfl (.inl rfl) (pe_op op_cat (pv 6) (pe_lst (pa_cons (pe_tup (pa_cons (pe_imp (pe_lmd (m := lawLS 8) (N := lawN) hTB rfl (List.mem_singleton.mpr rfl) (fun p hp _ => congrArg Prod.snd (List.mem_singleton.mp hp)) (LSok 8 (by decide)) rfl rfl rfl) (tLm_imp fun H f r => ⟨by decide, r⟩)) (pa_cons (pe_tup (pa_cons pe_str (pa_cons pe_int pa_nil))) pa_nil))) pa_nil))))
      (pss_cons (ps_set (i := 6) sc.nd rfl (.inl rfl) (pe_op op_cat (pv 6) (pe_lst (pa_cons (pe_tup (pa_cons (pe_imp (pe_lmd (m := lawLS 9) (N := lawN) hTB rfl (List.mem_singleton.mpr rfl) (fun p hp _ => congrArg Prod.snd (List.mem_singleton.mp hp)) (LSok 9 (by decide)) rfl rfl rfl) (tLm_imp fun H f r => ⟨by decide, r⟩)) (pa_cons (pe_tup (pa_cons pe_str (pa_cons pe_int pa_nil))) pa_nil))) pa_nil))))
      (pss_cons (ps_set (i := 6) sc.nd rfl (.inl rfl) (pe_op op_cat (pv 6) (pe_lst (pa_cons (pe_tup (pa_cons (pe_imp (pe_lmd (m := lawLS 10) (N := lawN) hTB rfl (List.mem_singleton.mpr rfl) (fun p hp _ => congrArg Prod.snd (List.mem_singleton.mp hp)) (LSok 10 (by decide)) rfl rfl rfl) (tLm_imp fun H f r => ⟨by decide, r⟩)) (pa_cons (pe_tup (pa_cons pe_str (pa_cons pe_int pa_nil))) pa_nil))) pa_nil))))
      (pss_cons (ps_set (i := 6) sc.nd rfl (.inl rfl) (pe_op op_cat (pv 6) (pe_lst (pa_cons (pe_tup (pa_cons (pe_imp (pe_lmd (m := lawLS 11) (N := lawN) hTB rfl (List.mem_singleton.mpr rfl) (fun p hp _ => congrArg Prod.snd (List.mem_singleton.mp hp)) (LSok 11 (by decide)) rfl rfl rfl) (tLm_imp fun H f r => ⟨by decide, r⟩)) (pa_cons (pe_tup (pa_cons pe_str (pa_cons pe_int pa_nil))) pa_nil))) pa_nil))))
      (pss_cons (ps_for PassesOwn.never rfl (pi_list (pv 6)) (pg_tup (by rfl) (pgs_cons (pg_name (i := 7) sc.nd rfl (.inl rfl)) (pgs_cons (pg_name (i := 8) sc.nd rfl (.inl rfl)) pgs_nil))) (pss_one (ps_if (pt_cmpR (op_neD (rm64 hr)) (pe_errVX (n := 12) (Ls := lawLS) (RT := (rt08 K C T0 cs)) (kt := 8) (kA := 10) (fun _ => rfl) F_err (hr.mono (by decide)) LSok LBok LB (fun x c e => vis_of (sc := lawScope) (by decide +kernel) e) (pa_cons (pv 7) pa_nil)) (pe_tup (pa_cons pe_str (pa_cons (pv 8) pa_nil))) (nomark _)) (pss_one (ps_ret pe_bl)) pss_nil)))
      (pss_cons (ps_set (i := 9) sc.nd rfl (.inl rfl) (pe_cmK1 X_ofl1 (hr.mono (by decide)) passN0 (pe_gc R.gC) (pa_cons pe_int (pa_cons pe_int (pa_cons pe_int (pa_cons pe_int (pa_cons pe_int (pa_cons pe_int (pa_cons pe_int (pa_cons pe_int (pa_cons pe_int (pa_cons pe_int (pa_cons pe_int (pa_cons pe_int (pa_cons pe_int pa_nil))))))))))))) (pk_cons (pe_op op_repA (pe_tup (pa_cons pe_int pa_nil)) pe_int) pk_nil)))
      (pss_cons (ps_if (PW.pt (pw_or (pt_cmpR (op_neOwn R.ne Feq (hr.mono (by decide)) pass0) (pv 9) (pe_cm Fparse (hr.mono (by decide)) pass0 (pe_gc R.gC) (pa_cons pe_str pa_nil)) (nomark _)) (pw_or1 (pt_cmpR (op_neD (rm64 hr)) (pe_tup (pa_cons (ClX.pe_cval (pe_gc R.gC)) (pa_cons (ClX.pe_cval (pe_gc R.gC)) (pa_cons (ClX.pe_cval (pe_gc R.gC)) pa_nil)))) (pe_tup (pa_cons pe_int (pa_cons pe_int (pa_cons pe_int pa_nil)))) (nomark _))))) (pss_one (ps_ret pe_bl)) pss_nil)
      (pss_cons (ps_par (i := 10) (j := 11) (by rfl) sc.nd rfl rfl (by decide) rfl rfl (pa_cons (pe_cmK0 X_ofl0 (hr.mono (by decide)) passN0 (pe_gc R.gC) (pa_cons (pv 2) (pa_cons pe_int (pa_cons pe_int pa_nil))) pk_nil) (pa_cons (pe_cmK1 X_ofl1 (hr.mono (by decide)) passN0 (pe_gc R.gC) (pa_cons (pv 2) (pa_cons pe_int pa_nil)) (pk_cons (pe_tup (pa_cons pe_int (pa_cons pe_int pa_nil))) pk_nil)) pa_nil)) (by rfl))
      (pss_one (ps_ret (pe_def F_law_equal (hr.mono (by decide)) pass0 (pa_cons (pe_lst (pa_cons (pe_prp R.own.cl Ftext (hr.mono (by decide)) pass0 (pv 10)) (pa_cons (pe_prp R.own.cl Ftext (hr.mono (by decide)) pass0 (pv 11)) pa_nil))) (pa_cons (pe_lst (pa_cons (pe_op o_addS (pe_callTy c_str (by rfl) b.str (by decide +kernel) (pa_cons (pv 2) pa_nil)) pe_str) (pa_cons (pe_op o_addS (pe_callTy c_str (by rfl) b.str (by decide +kernel) (pa_cons (pv 2) pa_nil)) pe_str) pa_nil))) pa_nil)))))))))))))))))))))))
end
section
theorem kit_cls {K : PySem.W.Frag} {E c : Addr} {r r' : Bool} (h0 : (E == c) = false) (h1 : PySem.W.isClsIn K c = true) (h2 : PySem.W.typeIn K (.ref c) = some (.type "type")) (h3 : PySem.W.subIn K (.ref E) (.ref c) = some r) (hr : r = r') : PySem.W.kitOne K (.ref E) (.ref c) = some r' := by
  subst hr
  unfold PySem.W.isClsIn at h1
  unfold PySem.W.kitOne
  have e : ¬ (Value.ref E == Value.ref c) = true := fun z => by
    have e' : E = c := Value.ref.inj (beq_iff_eq.mp z)
    rw [e', beq_self_eq_true] at h0
    cases h0
  rw [if_neg e]
  show (if ((PySem.W.clsIn K c).isSome && PySem.W.typeIn K (Value.ref c) == some (Value.type "type")) = true then PySem.W.subIn K (Value.ref E) (Value.ref c) else none) = some r
  rw [h1, h2, h3]; rfl
theorem kit_typ {K : PySem.W.Frag} {E : Addr} {t : String} (h1 : PySem.W.kitMeta t = true) (h3 : PySem.W.subIn K (.ref E) (.type t) = some true) : PySem.W.kitOne K (.ref E) (.type t) = some true := by
  unfold PySem.W.kitOne
  rw [if_neg (by simp)]
  show (if PySem.W.kitMeta t = true then PySem.W.subIn K (.ref E) (.type t) else none) = some true
  rw [if_pos h1, h3]
theorem kit_self {K : PySem.W.Frag} {v : Value} : PySem.W.kitOne K v v = some true := by unfold PySem.W.kitOne; rw [if_pos (beq_self_eq_true _)]
theorem all_mk {l : PySem.W.OpenLaw} {w : World} {K : PySem.W.Frag} {h : Heap} {mg : Str → Option Value} {fa C T0 : Addr} (X : K.In h) (G : h.Ns mainGlobals mg) (hfa : mg "law" = some (.ref fa)) (own : LamX.OwnTab K fa h)
    {f0 : Addr} {od0 an0 : Option Addr} {sl0 : Array (Option Value)} {oc0 kV0 dc0 pm0 cd0 ct0 : Value}
    {f1 : Addr} {od1 an1 : Option Addr} {sl1 : Array (Option Value)} {oc1 kV1 dc1 pm1 cd1 ct1 : Value}
    {f2 : Addr} {od2 an2 : Option Addr} {sl2 : Array (Option Value)} {oc2 kV2 dc2 pm2 cd2 ct2 : Value}
    {f3 : Addr} {od3 an3 : Option Addr} {sl3 : Array (Option Value)} {oc3 kV3 dc3 pm3 cd3 ct3 : Value}
    {f4 : Addr} {od4 an4 : Option Addr} {sl4 : Array (Option Value)} {oc4 kV4 dc4 pm4 cd4 ct4 : Value}
    {f5 : Addr} {od5 an5 : Option Addr} {sl5 : Array (Option Value)} {oc5 kV5 dc5 pm5 cd5 ct5 : Value}
    {f6 : Addr} {od6 an6 : Option Addr} {sl6 : Array (Option Value)} {oc6 kV6 dc6 pm6 cd6 ct6 : Value}
    {f7 : Addr} {od7 an7 : Option Addr} {sl7 : Array (Option Value)} {oc7 kV7 dc7 pm7 cd7 ct7 : Value}
    {f8 : Addr} {od8 an8 : Option Addr} {sl8 : Array (Option Value)} {oc8 kV8 dc8 pm8 cd8 ct8 : Value}
    {f9 : Addr} {od9 an9 : Option Addr} {sl9 : Array (Option Value)} {oc9 kV9 dc9 pm9 cd9 ct9 : Value}
    {p9 : Addr} {rs9 : List Value}
    {f10 : Addr} {od10 an10 : Option Addr} {sl10 : Array (Option Value)} {oc10 kV10 dc10 pm10 cd10 ct10 : Value}
    {f11 : Addr} {od11 an11 : Option Addr} {sl11 : Array (Option Value)} {oc11 kV11 dc11 pm11 cd11 ct11 : Value}
    {f12 : Addr} {od12 an12 : Option Addr} {sl12 : Array (Option Value)} {oc12 kV12 dc12 pm12 cd12 ct12 : Value}
    {p12 : Addr} {rs12 : List Value}
    {f13 : Addr} {od13 an13 : Option Addr} {sl13 : Array (Option Value)} {oc13 kV13 dc13 pm13 cd13 ct13 : Value}
    {p13 : Addr} {rs13 : List Value}
    {f14 : Addr} {od14 an14 : Option Addr} {sl14 : Array (Option Value)} {oc14 kV14 dc14 pm14 cd14 ct14 : Value}
    {p14 : Addr} {rs14 : List Value}
    {f15 : Addr} {od15 an15 : Option Addr} {sl15 : Array (Option Value)} {oc15 kV15 dc15 pm15 cd15 ct15 : Value}
    {f16 : Addr} {od16 an16 : Option Addr} {sl16 : Array (Option Value)} {oc16 kV16 dc16 pm16 cd16 ct16 : Value}
    {f17 : Addr} {od17 an17 : Option Addr} {sl17 : Array (Option Value)} {oc17 kV17 dc17 pm17 ct17 : Value}
    {cL PT : Addr} {eL : Value} {ddL : Option Addr} {vsL : Array Value} {slL : Array (Option Value)}
    {tk_MAX_TICK : Tok}
    {tk_MAX_LENGTH : Tok}
    {tk_MAX_BEGIN : Tok}
    {tk_DIGITS : Tok}
    {tk_MAX_DIGITS : Tok}
    {tk_NEVER : Tok}
    {tk_BAR : Tok}
    {fO pO D0 : Addr} {rsO : List Value} {odO anO odT : Option Addr} {slO slT : Array (Option Value)} {ocO dcO pmO cdO ctO : Value} {nT : Nat} {tkS tkL tkM : Tok}
    {gE : Addr} {odE anE : Option Addr} {slE : Array (Option Value)} {ocE kVE dcE pmE cdE ctE : Value}
    {e0 e1 e2 e3 e4 e5 e6 e7 e8 e9 e10 eT : Addr}
    {nm_8 qn_8 : Str} {N_8 : Addr} {bs_8 bm_8 : List Value} {sn_8 : List Str} {sub_8 : List Value} {ab_8 : Bool} {col_8 : Option Bool} {dd_8 : Option Addr} {k0_8 k1_8 k2_8 k3_8 k5_8 : Option Value}
    {fI8 : Addr} {odI8 anI8 : Option Addr} {slI8 : Array (Option Value)} {ocI8 kVI8 dcI8 pmI8 cdI8 ctI8 : Value}
    {gA : Addr} {odA anA : Option Addr} {slA : Array (Option Value)} {ocA kVA dcA pmA cdA ctA : Value}
    (aC : PySem.W.nsIn K mainGlobals "Row" = some (some (.ref C)))
    (a0 : PySem.W.nsIn K mainGlobals "_law_random" = some (some (.ref f0)))
    (l0 : K.lookup f0 = some ⟨oc0, od0, .func (PySem.W.fnOf "_law_random" "_law_random" (defArgs (top 34)) (defBody (top 34)) (defScope (top 34)) .none kV0 dc0 pm0 an0 cd0 ct0), sl0⟩)
    (c0 : PySem.W.codeIn K cd0 "_law_random" = true)
    (k0 : PySem.W.keepIn K (.ref f0) = true)
    (a1 : PySem.W.nsIn K mainGlobals "_law_below" = some (some (.ref f1)))
    (l1 : K.lookup f1 = some ⟨oc1, od1, .func (PySem.W.fnOf "_law_below" "_law_below" (defArgs (top 35)) (defBody (top 35)) (defScope (top 35)) .none kV1 dc1 pm1 an1 cd1 ct1), sl1⟩)
    (c1 : PySem.W.codeIn K cd1 "_law_below" = true)
    (k1 : PySem.W.keepIn K (.ref f1) = true)
    (a2 : PySem.W.findIn K (.ref C) "__init__" = some (some (.ref f2)))
    (i2 : PySem.W.isFn K (.ref f2) = true)
    (n2 : PySem.W.fnIn K f2 = true)
    (l2 : K.lookup f2 = some ⟨oc2, od2, .func (PySem.W.fnOf "__init__" "Row.__init__" (defArgs (inClass (top 24) 3)) (defBody (inClass (top 24) 3)) (defScope (inClass (top 24) 3)) .none kV2 dc2 pm2 an2 cd2 ct2), sl2⟩)
    (c2 : PySem.W.codeIn K cd2 "Row.__init__" = true)
    (k2 : PySem.W.keepIn K (.ref f2) = true)
    (a3 : PySem.W.nsIn K mainGlobals "read_number" = some (some (.ref f3)))
    (l3 : K.lookup f3 = some ⟨oc3, od3, .func (PySem.W.fnOf "read_number" "read_number" (defArgs (top 26)) (defBody (top 26)) (defScope (top 26)) .none kV3 dc3 pm3 an3 cd3 ct3), sl3⟩)
    (c3 : PySem.W.codeIn K cd3 "read_number" = true)
    (k3 : PySem.W.keepIn K (.ref f3) = true)
    (a4 : PySem.W.nsIn K mainGlobals "shortest" = some (some (.ref f4)))
    (l4 : K.lookup f4 = some ⟨oc4, od4, .func (PySem.W.fnOf "shortest" "shortest" (defArgs (top 30)) (defBody (top 30)) (defScope (top 30)) .none kV4 dc4 pm4 an4 cd4 ct4), sl4⟩)
    (c4 : PySem.W.codeIn K cd4 "shortest" = true)
    (k4 : PySem.W.keepIn K (.ref f4) = true)
    (a5 : PySem.W.nsIn K mainGlobals "normal" = some (some (.ref f5)))
    (l5 : K.lookup f5 = some ⟨oc5, od5, .func (PySem.W.fnOf "normal" "normal" (defArgs (top 31)) (defBody (top 31)) (defScope (top 31)) .none kV5 dc5 pm5 an5 cd5 ct5), sl5⟩)
    (c5 : PySem.W.codeIn K cd5 "normal" = true)
    (k5 : PySem.W.keepIn K (.ref f5) = true)
    (a6 : PySem.W.nsIn K mainGlobals "row_of_ticks" = some (some (.ref f6)))
    (l6 : K.lookup f6 = some ⟨oc6, od6, .func (PySem.W.fnOf "row_of_ticks" "row_of_ticks" (defArgs (top 28)) (defBody (top 28)) (defScope (top 28)) .none kV6 dc6 pm6 an6 cd6 ct6), sl6⟩)
    (c6 : PySem.W.codeIn K cd6 "row_of_ticks" = true)
    (k6 : PySem.W.keepIn K (.ref f6) = true)
    (a7 : PySem.W.nsIn K mainGlobals "ticks_of" = some (some (.ref f7)))
    (l7 : K.lookup f7 = some ⟨oc7, od7, .func (PySem.W.fnOf "ticks_of" "ticks_of" (defArgs (top 27)) (defBody (top 27)) (defScope (top 27)) .none kV7 dc7 pm7 an7 cd7 ct7), sl7⟩)
    (c7 : PySem.W.codeIn K cd7 "ticks_of" = true)
    (k7 : PySem.W.keepIn K (.ref f7) = true)
    (a8 : PySem.W.nsIn K mainGlobals "row_of_laps" = some (some (.ref f8)))
    (l8 : K.lookup f8 = some ⟨oc8, od8, .func (PySem.W.fnOf "row_of_laps" "row_of_laps" (defArgs (top 29)) (defBody (top 29)) (defScope (top 29)) .none kV8 dc8 pm8 an8 cd8 ct8), sl8⟩)
    (c8 : PySem.W.codeIn K cd8 "row_of_laps" = true)
    (k8 : PySem.W.keepIn K (.ref f8) = true)
    (a9 : PySem.W.findCls K (.ref C) (.type "type") "parse" = some (.get (.builtin "classmethod.__get__") (.ref p9) .none (.ref C)))
    (i9 : PySem.W.recIn K p9 "classmethod" = some (.ref f9 :: rs9))
    (n9 : PySem.W.fnIn K f9 = true)
    (l9 : K.lookup f9 = some ⟨oc9, od9, .func (PySem.W.fnOf "parse" "Row.parse" (defArgs (inClass (top 24) 5)) (defBody (inClass (top 24) 5)) (defScope (inClass (top 24) 5)) .none kV9 dc9 pm9 an9 cd9 ct9), sl9⟩)
    (c9 : PySem.W.codeIn K cd9 "Row.parse" = true)
    (k9 : PySem.W.keepIn K (.ref f9) = true)
    (a10 : PySem.W.findIn K (.ref C) "__eq__" = some (some (.ref f10)))
    (i10 : PySem.W.isFn K (.ref f10) = true)
    (n10 : PySem.W.fnIn K f10 = true)
    (l10 : K.lookup f10 = some ⟨oc10, od10, .func (PySem.W.fnOf "__eq__" "Row.__eq__" (defArgs (inClass (top 24) 15)) (defBody (inClass (top 24) 15)) (defScope (inClass (top 24) 15)) .none kV10 dc10 pm10 an10 cd10 ct10), sl10⟩)
    (c10 : PySem.W.codeIn K cd10 "Row.__eq__" = true)
    (k10 : PySem.W.keepIn K (.ref f10) = true)
    (a11 : PySem.W.nsIn K mainGlobals "_law_equal" = some (some (.ref f11)))
    (l11 : K.lookup f11 = some ⟨oc11, od11, .func (PySem.W.fnOf "_law_equal" "_law_equal" (defArgs (top 38)) (defBody (top 38)) (defScope (top 38)) .none kV11 dc11 pm11 an11 cd11 ct11), sl11⟩)
    (c11 : PySem.W.codeIn K cd11 "_law_equal" = true)
    (k11 : PySem.W.keepIn K (.ref f11) = true)
    (a12 : PySem.W.findIn K (.ref C) "first_laps" = some (some (.ref p12)))
    (b12_0 : PySem.W.specialIn K (.ref p12) "__get__" = some (some (.builtin "property.__get__")))
    (b12_1 : PySem.W.takesIn K (.ref p12) = some true)
    (b12_2 : PySem.W.recIn K p12 "property" = some (.ref f12 :: rs12))
    (l12 : K.lookup f12 = some ⟨oc12, od12, .func (PySem.W.fnOf "first_laps" "Row.first_laps" (defArgs (inClass (top 24) 9)) (defBody (inClass (top 24) 9)) (defScope (inClass (top 24) 9)) .none kV12 dc12 pm12 an12 cd12 ct12), sl12⟩)
    (c12 : PySem.W.codeIn K cd12 "Row.first_laps" = true)
    (k12 : PySem.W.keepIn K (.ref f12) = true)
    (a13 : PySem.W.findIn K (.ref C) "laps" = some (some (.ref p13)))
    (b13_0 : PySem.W.specialIn K (.ref p13) "__get__" = some (some (.builtin "property.__get__")))
    (b13_1 : PySem.W.takesIn K (.ref p13) = some true)
    (b13_2 : PySem.W.recIn K p13 "property" = some (.ref f13 :: rs13))
    (l13 : K.lookup f13 = some ⟨oc13, od13, .func (PySem.W.fnOf "laps" "Row.laps" (defArgs (inClass (top 24) 8)) (defBody (inClass (top 24) 8)) (defScope (inClass (top 24) 8)) .none kV13 dc13 pm13 an13 cd13 ct13), sl13⟩)
    (c13 : PySem.W.codeIn K cd13 "Row.laps" = true)
    (k13 : PySem.W.keepIn K (.ref f13) = true)
    (a14 : PySem.W.findIn K (.ref C) "text" = some (some (.ref p14)))
    (b14_0 : PySem.W.specialIn K (.ref p14) "__get__" = some (some (.builtin "property.__get__")))
    (b14_1 : PySem.W.takesIn K (.ref p14) = some true)
    (b14_2 : PySem.W.recIn K p14 "property" = some (.ref f14 :: rs14))
    (l14 : K.lookup f14 = some ⟨oc14, od14, .func (PySem.W.fnOf "text" "Row.text" (defArgs (inClass (top 24) 10)) (defBody (inClass (top 24) 10)) (defScope (inClass (top 24) 10)) .none kV14 dc14 pm14 an14 cd14 ct14), sl14⟩)
    (c14 : PySem.W.codeIn K cd14 "Row.text" = true)
    (k14 : PySem.W.keepIn K (.ref f14) = true)
    (a15 : PySem.W.nsIn K mainGlobals "is_int_in" = some (some (.ref f15)))
    (l15 : K.lookup f15 = some ⟨oc15, od15, .func (PySem.W.fnOf "is_int_in" "is_int_in" (defArgs (top 22)) (defBody (top 22)) (defScope (top 22)) .none kV15 dc15 pm15 an15 cd15 ct15), sl15⟩)
    (c15 : PySem.W.codeIn K cd15 "is_int_in" = true)
    (k15 : PySem.W.keepIn K (.ref f15) = true)
    (a16 : PySem.W.nsIn K mainGlobals "check_laps" = some (some (.ref f16)))
    (l16 : K.lookup f16 = some ⟨oc16, od16, .func (PySem.W.fnOf "check_laps" "check_laps" (defArgs (top 25)) (defBody (top 25)) (defScope (top 25)) .none kV16 dc16 pm16 an16 cd16 ct16), sl16⟩)
    (c16 : PySem.W.codeIn K cd16 "check_laps" = true)
    (k16 : PySem.W.keepIn K (.ref f16) = true)
    (a17 : PySem.W.nsIn K mainGlobals "law" = some (some (.ref f17)))
    (l17 : K.lookup f17 = some ⟨oc17, od17, .func (PySem.W.fnOf "law" "law" (defArgs (top 39)) (defBody (top 39)) (defScope (top 39)) .none kV17 dc17 pm17 an17 (.ref cL) ct17), sl17⟩)
    (c17 : PySem.W.codeIn K (.ref cL) "law" = true)
    (k17 : PySem.W.keepIn K (.ref f17) = true)
    (lcL : K.lookup cL = some ⟨eL, ddL, .fields vsL, slL⟩)
    (vL : vsL[11]? = some (.ref PT))
    (nPT : K.lookup PT = none)
    (chd : PySem.W.codeHdIn K cL PT = true)
    (pg : PySem.W.plainGet K C Str.empty = true)
    (hdd : PySem.W.hasDictIn K C = true)
    (po : PySem.W.plainOver K C = true)
    (sa : PySem.W.findIn K (.ref C) "__setattr__" = some (some (.builtin "object.__setattr__")))
    (mk : PySem.W.makesIn K C = true)
    (kc : PySem.W.keepIn K (.ref C) = true)
    (sf : PySem.W.selfFirst K C = true)
    (nsq : PySem.W.noSeq K C = true)
    (ne1 : PySem.W.findIn K (.ref C) "__ne__" = some (some (.builtin "object.__ne__")))
    (ne2 : PySem.W.subIn K (.ref C) (.type "object") = some true)
    (x1 : PySem.W.findIn K (.ref C) "__class__" = some (some (.builtin "object.__class__")))
    (x2 : PySem.W.specialIn K (.builtin "object.__class__") "__get__" = some (some (.builtin "getset_descriptor.__get__")))
    (x3 : PySem.W.takesIn K (.builtin "object.__class__") = some true)
    (x4 : PySem.W.mroIn K C (.type "object") = some true)
    (cr1 : PySem.W.readsIn K C (.type "type") = true)
    (cr2 : PySem.W.specialIn K (.ref C) "__getattribute__" = some (some (.builtin "type.__getattribute__")))
    (na_early : PySem.W.findIn K (.ref C) "early" = some none)
    (na_begin : PySem.W.findIn K (.ref C) "begin" = some none)
    (na_length : PySem.W.findIn K (.ref C) "length" = some none)
    (na_offsets : PySem.W.findIn K (.ref C) "offsets" = some none)
    (na_marks : PySem.W.findIn K (.ref C) "marks" = some none)
    (na_parts : PySem.W.findIn K (.ref C) "parts" = some none)
    (z_range : PySem.W.nsIn K mainGlobals "range" = some none)
    (z_len : PySem.W.nsIn K mainGlobals "len" = some none)
    (z_isinstance : PySem.W.nsIn K mainGlobals "isinstance" = some none)
    (z_bool : PySem.W.nsIn K mainGlobals "bool" = some none)
    (z_int : PySem.W.nsIn K mainGlobals "int" = some none)
    (z_list : PySem.W.nsIn K mainGlobals "list" = some none)
    (z_tuple : PySem.W.nsIn K mainGlobals "tuple" = some none)
    (z_str : PySem.W.nsIn K mainGlobals "str" = some none)
    (z_sum : PySem.W.nsIn K mainGlobals "sum" = some none)
    (z_all : PySem.W.nsIn K mainGlobals "all" = some none)
    (z_any : PySem.W.nsIn K mainGlobals "any" = some none)
    (z_sorted : PySem.W.nsIn K mainGlobals "sorted" = some none)
    (z_dict : PySem.W.nsIn K mainGlobals "dict" = some none)
    (z_max : PySem.W.nsIn K mainGlobals "max" = some none)
    (z_min : PySem.W.nsIn K mainGlobals "min" = some none)
    (z_divmod : PySem.W.nsIn K mainGlobals "divmod" = some none)
    (z_abs : PySem.W.nsIn K mainGlobals "abs" = some none)
    (z_enumerate : PySem.W.nsIn K mainGlobals "enumerate" = some none)
    (v_MAX_TICK : PySem.W.nsIn K mainGlobals "MAX_TICK" = some (some (.int 1000000000000000000 tk_MAX_TICK)))
    (v_MAX_LENGTH : PySem.W.nsIn K mainGlobals "MAX_LENGTH" = some (some (.int 20000 tk_MAX_LENGTH)))
    (v_MAX_BEGIN : PySem.W.nsIn K mainGlobals "MAX_BEGIN" = some (some (.int 100000 tk_MAX_BEGIN)))
    (v_DIGITS : PySem.W.nsIn K mainGlobals "DIGITS" = some (some (.str "0123456789" tk_DIGITS)))
    (v_MAX_DIGITS : PySem.W.nsIn K mainGlobals "MAX_DIGITS" = some (some (.int 6 tk_MAX_DIGITS)))
    (v_NEVER : PySem.W.nsIn K mainGlobals "NEVER" = some (some (.str "never" tk_NEVER)))
    (v_BAR : PySem.W.nsIn K mainGlobals "BAR" = some (some (.str "|" tk_BAR)))
    (aO : PySem.W.findCls K (.ref C) (.type "type") "of_laps" = some (.get (.builtin "classmethod.__get__") (.ref pO) .none (.ref C)))
    (iO : PySem.W.recIn K pO "classmethod" = some (.ref fO :: rsO))
    (nO : PySem.W.fnIn K fO = true)
    (lO : K.lookup fO = some ⟨ocO, odO, .func (PySem.W.fnOf "of_laps" "Row.of_laps" (defArgs (inClass (top 24) 4)) (defBody (inClass (top 24) 4)) (defScope (inClass (top 24) 4)) .none (.ref D0) dcO pmO anO cdO ctO), slO⟩)
    (cO : PySem.W.codeIn K cdO "Row.of_laps" = true)
    (dO : PySem.W.nsIn K D0 "first" = some (some (.ref T0)))
    (tO : K.lookup T0 = some ⟨.type "tuple", odT, .seq #[] nT, slT⟩)
    (vC_S : PySem.W.findCls K (.ref C) (.type "type") "MAX_START" = some (.val (.int 10000 tkS)))
    (vC_L : PySem.W.findCls K (.ref C) (.type "type") "MAX_LAP" = some (.val (.int 60 tkL)))
    (vC_M : PySem.W.findCls K (.ref C) (.type "type") "MAX_LAPS" = some (.val (.int 12 tkM)))
    (aE : PySem.W.nsIn K mainGlobals "_law_error_of" = some (some (.ref gE)))
    (lE : K.lookup gE = some ⟨ocE, odE, .func (PySem.W.fnOf "_law_error_of" "_law_error_of" (defArgs (top 36)) (defBody (top 36)) (defScope (top 36)) .none kVE dcE pmE anE cdE ctE), slE⟩)
    (cdE1 : PySem.W.codeIn K cdE "_law_error_of" = true)
    (kE1 : PySem.W.keepIn K (.ref gE) = true)
    (ea_e0 : PySem.W.nsIn K mainGlobals "InvalidTick" = some (some (.ref e0)))
    (ei_e0 : PySem.W.isClsIn K e0 = true)
    (et_e0 : PySem.W.typeIn K (.ref e0) = some (.type "type"))
    (en_8_e0 : (e8 == e0) = false)
    (es_8_e0 : PySem.W.subIn K (.ref e8) (.ref e0) = some false)
    (ea_e1 : PySem.W.nsIn K mainGlobals "InvalidNumber" = some (some (.ref e1)))
    (ei_e1 : PySem.W.isClsIn K e1 = true)
    (et_e1 : PySem.W.typeIn K (.ref e1) = some (.type "type"))
    (en_8_e1 : (e8 == e1) = false)
    (es_8_e1 : PySem.W.subIn K (.ref e8) (.ref e1) = some false)
    (ea_e2 : PySem.W.nsIn K mainGlobals "NoTick" = some (some (.ref e2)))
    (ei_e2 : PySem.W.isClsIn K e2 = true)
    (et_e2 : PySem.W.typeIn K (.ref e2) = some (.type "type"))
    (en_8_e2 : (e8 == e2) = false)
    (es_8_e2 : PySem.W.subIn K (.ref e8) (.ref e2) = some false)
    (ea_e3 : PySem.W.nsIn K mainGlobals "TooLong" = some (some (.ref e3)))
    (ei_e3 : PySem.W.isClsIn K e3 = true)
    (et_e3 : PySem.W.typeIn K (.ref e3) = some (.type "type"))
    (en_8_e3 : (e8 == e3) = false)
    (es_8_e3 : PySem.W.subIn K (.ref e8) (.ref e3) = some false)
    (ea_e4 : PySem.W.nsIn K mainGlobals "NotEndless" = some (some (.ref e4)))
    (ei_e4 : PySem.W.isClsIn K e4 = true)
    (et_e4 : PySem.W.typeIn K (.ref e4) = some (.type "type"))
    (en_8_e4 : (e8 == e4) = false)
    (es_8_e4 : PySem.W.subIn K (.ref e8) (.ref e4) = some false)
    (ea_e5 : PySem.W.nsIn K mainGlobals "Contradiction" = some (some (.ref e5)))
    (ei_e5 : PySem.W.isClsIn K e5 = true)
    (et_e5 : PySem.W.typeIn K (.ref e5) = some (.type "type"))
    (en_8_e5 : (e8 == e5) = false)
    (es_8_e5 : PySem.W.subIn K (.ref e8) (.ref e5) = some false)
    (ea_e6 : PySem.W.nsIn K mainGlobals "InvalidName" = some (some (.ref e6)))
    (ei_e6 : PySem.W.isClsIn K e6 = true)
    (et_e6 : PySem.W.typeIn K (.ref e6) = some (.type "type"))
    (en_8_e6 : (e8 == e6) = false)
    (es_8_e6 : PySem.W.subIn K (.ref e8) (.ref e6) = some false)
    (ea_e7 : PySem.W.nsIn K mainGlobals "UnknownName" = some (some (.ref e7)))
    (ei_e7 : PySem.W.isClsIn K e7 = true)
    (et_e7 : PySem.W.typeIn K (.ref e7) = some (.type "type"))
    (en_8_e7 : (e8 == e7) = false)
    (es_8_e7 : PySem.W.subIn K (.ref e8) (.ref e7) = some false)
    (ea_e8 : PySem.W.nsIn K mainGlobals "InvalidRow" = some (some (.ref e8)))
    (ei_e8 : PySem.W.isClsIn K e8 = true)
    (et_e8 : PySem.W.typeIn K (.ref e8) = some (.type "type"))
    (ea_e9 : PySem.W.nsIn K mainGlobals "TextFault" = some (some (.ref e9)))
    (ei_e9 : PySem.W.isClsIn K e9 = true)
    (et_e9 : PySem.W.typeIn K (.ref e9) = some (.type "type"))
    (en_8_e9 : (e8 == e9) = false)
    (es_8_e9 : PySem.W.subIn K (.ref e8) (.ref e9) = some false)
    (ea_e10 : PySem.W.nsIn K mainGlobals "InvalidOperation" = some (some (.ref e10)))
    (ei_e10 : PySem.W.isClsIn K e10 = true)
    (et_e10 : PySem.W.typeIn K (.ref e10) = some (.type "type"))
    (en_8_e10 : (e8 == e10) = false)
    (es_8_e10 : PySem.W.subIn K (.ref e8) (.ref e10) = some false)
    (ea_eT : PySem.W.nsIn K mainGlobals "TrackError" = some (some (.ref eT)))
    (ei_eT : PySem.W.isClsIn K eT = true)
    (et_eT : PySem.W.typeIn K (.ref eT) = some (.type "type"))
    (es_8_eT : PySem.W.subIn K (.ref e8) (.ref eT) = some true)
    (eTb : PySem.W.subIn K (.ref eT) (.type "BaseException") = some true)
    (eTd : PySem.W.hasDictIn K eT = true)
    (x8g : PySem.W.findIn K (.ref e8) "__getattribute__" = some (some (.builtin "BaseException.__getattribute__")))
    (x8k : PySem.W.findIn K (.ref e8) "__getattr__" = some none)
    (x8b : PySem.W.subIn K (.ref e8) (.type "BaseException") = some true)
    (x8d : PySem.W.hasDictIn K e8 = true)
    (x8a : PySem.W.findIn K (.ref e8) "__class__" = some (some (.builtin "object.__class__")))
    (x8m : PySem.W.mroIn K e8 (.type "object") = some true)
    (x8v : PySem.W.subIn K (.ref e8) (.type "ValueError") = some true)
    (x8p : PySem.W.keepIn K (.ref e8) = true)
    (xn8_part : PySem.W.findIn K (.ref e8) "part" = some none)
    (xn8_index : PySem.W.findIn K (.ref e8) "index" = some none)
    (xn8_word : PySem.W.findIn K (.ref e8) "word" = some none)
    (xn8_place : PySem.W.findIn K (.ref e8) "place" = some none)
    (ox8 : K.lookup e8 = some (excClassObj nm_8 qn_8 e8 N_8 bs_8 bm_8 true sn_8 sub_8 ab_8 col_8 dd_8 k0_8 k1_8 k2_8 k3_8 k5_8 "ValueError.__new__"))
    (or8 : PySem.HandSPX.refsVE bm_8 = true)
    (os8 : PySem.W.findIn K (.ref e8) "__setattr__" = some (some (.builtin "object.__setattr__")))
    (ia8 : PySem.W.findIn K (.ref e8) "__init__" = some (some (.ref fI8)))
    (it8 : PySem.W.typeIn K (.ref fI8) = some (.type "function"))
    (il8 : K.lookup fI8 = some ⟨ocI8, odI8, .func (PySem.W.fnOf "__init__" "InvalidRow.__init__" (defArgs (inClass (top 3) 0)) (defBody (inClass (top 3) 0)) (defScope (inClass (top 3) 0)) .none kVI8 dcI8 pmI8 anI8 cdI8 ctI8), slI8⟩)
    (ic8 : PySem.W.codeIn K cdI8 "InvalidRow.__init__" = true)
    (ik8 : PySem.W.keepIn K (.ref fI8) = true)
    (cT1 : PySem.W.readsIn K eT (.type "type") = true)
    (cT2 : PySem.W.specialIn K (.ref eT) "__getattribute__" = some (some (.builtin "type.__getattribute__")))
    (cT3 : PySem.W.findCls K (.ref eT) (.type "type") "__init__" = some (.val (.builtin "ValueError.__init__")))
    (aA : PySem.W.nsIn K mainGlobals "_law_all_raise" = some (some (.ref gA)))
    (lA : K.lookup gA = some ⟨ocA, odA, .func (PySem.W.fnOf "_law_all_raise" "_law_all_raise" (defArgs (top 37)) (defBody (top 37)) (defScope (top 37)) .none kVA dcA pmA anA cdA ctA), slA⟩)
    (cdA1 : PySem.W.codeIn K cdA "_law_all_raise" = true)
    (kA1 : PySem.W.keepIn K (.ref gA) = true)
    (z_VE : PySem.W.nsIn K mainGlobals "ValueError" = some none) :
    LamX.LawAtS l w K CX0 12 63 "_law_script" mg fa h := by
  have e := hfa.symm.trans (PySem.W.mg_of X G a17)
  cases e
  have cls : Cls K C := ⟨pg, hdd, po, sa⟩
  have T : TyF K C := ⟨kit_self, fun H a dx fs hi => .base (.ins hi cls x1 x2 x3 x4), cls, na_early, na_begin, na_length, na_offsets, na_marks, na_parts, L2.kit_ty (by decide +kernel), L2.kit_ty (by decide +kernel), L2.kit_ty (by decide +kernel), L2.kit_ty (by decide +kernel), L2.kit_ty (by decide +kernel), L2.kit_ty (by decide +kernel)⟩
  have R : RowC K mg C := ⟨⟨cls, sf, nsq⟩, ⟨ne1, ne2⟩, PySem.W.mg_of X G aC, na_early, na_begin, na_length, na_offsets, na_marks, na_parts, ⟨.own C, kit_self⟩⟩
  have c : Cst mg := ⟨⟨_, PySem.W.mg_of X G v_MAX_TICK⟩, ⟨_, PySem.W.mg_of X G v_MAX_LENGTH⟩, ⟨_, PySem.W.mg_of X G v_MAX_BEGIN⟩, ⟨_, PySem.W.mg_of X G v_DIGITS⟩, ⟨_, PySem.W.mg_of X G v_MAX_DIGITS⟩, ⟨_, PySem.W.mg_of X G v_NEVER⟩, ⟨_, PySem.W.mg_of X G v_BAR⟩⟩
  have b : Blt mg := ⟨PySem.W.mg_none_of X G z_range, PySem.W.mg_none_of X G z_len, PySem.W.mg_none_of X G z_isinstance, PySem.W.mg_none_of X G z_bool, PySem.W.mg_none_of X G z_int, PySem.W.mg_none_of X G z_list, PySem.W.mg_none_of X G z_tuple, PySem.W.mg_none_of X G z_str, PySem.W.mg_none_of X G z_sum, PySem.W.mg_none_of X G z_all, PySem.W.mg_none_of X G z_any, PySem.W.mg_none_of X G z_sorted, PySem.W.mg_none_of X G z_dict, PySem.W.mg_none_of X G z_max, PySem.W.mg_none_of X G z_min, PySem.W.mg_none_of X G z_divmod, PySem.W.mg_none_of X G z_abs, PySem.W.mg_none_of X G z_enumerate⟩
  have F0 := fun_mk (st := (top 34)) l0 c0 k0
  have b0 := F0.binds (ps := ["_law_script", "_law_salt"]) fun _ _ _ _ _ _ => lenS fun _ => lenS fun _ => len0 rfl
  have F1 := fun_mk (st := (top 35)) l1 c1 k1
  have b1 := F1.binds (ps := ["_law_d", "_law_limit"]) fun _ _ _ _ _ _ => lenS fun _ => lenS fun _ => len0 rfl
  have F2 := fun_mk (st := (inClass (top 24) 3)) l2 c2 k2
  have b2 := F2.binds (ps := ["self", "early", "begin", "length", "offsets"]) fun _ _ _ _ _ _ => lenS fun _ => lenS fun _ => lenS fun _ => lenS fun _ => lenS fun _ => len0 rfl
  have F3 := fun_mk (st := (top 26)) l3 c3 k3
  have b3 := F3.binds (ps := ["word"]) fun _ _ _ _ _ _ => lenS fun _ => len0 rfl
  have F4 := fun_mk (st := (top 30)) l4 c4 k4
  have b4 := F4.binds (ps := ["length", "offsets"]) fun _ _ _ _ _ _ => lenS fun _ => lenS fun _ => len0 rfl
  have F5 := fun_mk (st := (top 31)) l5 c5 k5
  have b5 := F5.binds (ps := ["early", "begin", "length", "offsets"]) fun _ _ _ _ _ _ => lenS fun _ => lenS fun _ => lenS fun _ => lenS fun _ => len0 rfl
  have F6 := fun_mk (st := (top 28)) l6 c6 k6
  have b6 := F6.binds (ps := ["ticks"]) fun _ _ _ _ _ _ => lenS fun _ => len0 rfl
  have F7 := fun_mk (st := (top 27)) l7 c7 k7
  have b7 := F7.binds (ps := ["numbers"]) fun _ _ _ _ _ _ => lenS fun _ => len0 rfl
  have F8 := fun_mk (st := (top 29)) l8 c8 k8
  have b8 := F8.binds (ps := ["start", "first", "laps"]) fun _ _ _ _ _ _ => lenS fun _ => lenS fun _ => lenS fun _ => len0 rfl
  have F9 := fun_mk (st := (inClass (top 24) 5)) l9 c9 k9
  have b9 := F9.binds (ps := ["cls", "text"]) fun _ _ _ _ _ _ => lenS fun _ => lenS fun _ => len0 rfl
  have F10 := fun_mk (st := (inClass (top 24) 15)) l10 c10 k10
  have b10 := F10.binds (ps := ["self", "other"]) fun _ _ _ _ _ _ => lenS fun _ => lenS fun _ => len0 rfl
  have F11 := fun_mk (st := (top 38)) l11 c11 k11
  have b11 := F11.binds (ps := ["_law_actual", "_law_expected"]) fun _ _ _ _ _ _ => lenS fun _ => lenS fun _ => len0 rfl
  have F12 := fun_mk (st := (inClass (top 24) 9)) l12 c12 k12
  have b12 := F12.binds (ps := ["self"]) fun _ _ _ _ _ _ => lenS fun _ => len0 rfl
  have F13 := fun_mk (st := (inClass (top 24) 8)) l13 c13 k13
  have b13 := F13.binds (ps := ["self"]) fun _ _ _ _ _ _ => lenS fun _ => len0 rfl
  have F14 := fun_mk (st := (inClass (top 24) 10)) l14 c14 k14
  have b14 := F14.binds (ps := ["self"]) fun _ _ _ _ _ _ => lenS fun _ => len0 rfl
  have F15 := fun_mk (st := (top 22)) l15 c15 k15
  have b15 := F15.binds (ps := ["value", "low", "high"]) fun _ _ _ _ _ _ => lenS fun _ => lenS fun _ => lenS fun _ => len0 rfl
  have F16 := fun_mk (st := (top 25)) l16 c16 k16
  have b16 := F16.binds (ps := ["part", "laps", "most", "longest"]) fun _ _ _ _ _ _ => lenS fun _ => lenS fun _ => lenS fun _ => lenS fun _ => len0 rfl
  have F17 := fun_mk (st := (top 39)) l17 c17 k17
  have b17 := F17.binds (ps := ["_law_script"]) fun _ _ _ _ _ _ => lenS fun _ => len0 rfl
  have O0 : ∀ base : Heap, FnOk l.prog w K mg base CX0 1 f0 _ ["_law_script", "_law_salt"] (spRandom K) := fun base => okLrandom F0 T c b R 
  have D0 : ∀ base : Heap, DefN l.prog w K mg base CX0 1 "_law_random" ["_law_script", "_law_salt"] (spRandom K) := fun base => ⟨f0, _, PySem.W.mg_of X G a0, k0, O0 base, b0⟩
  have O1 : ∀ base : Heap, FnOk l.prog w K mg base CX0 1 f1 _ ["_law_d", "_law_limit"] (spBelow) := fun base => okLbelow F1 T c b R 
  have D1 : ∀ base : Heap, DefN l.prog w K mg base CX0 1 "_law_below" ["_law_d", "_law_limit"] (spBelow) := fun base => ⟨f1, _, PySem.W.mg_of X G a1, k1, O1 base, b1⟩
  have O2 : ∀ base : Heap, FnOk l.prog w K mg base CX0 1 f2 _ ["self", "early", "begin", "length", "offsets"] (spInit K C) := fun base => okRinit F2 T c b R 
  have D2 : ∀ base : Heap, MkN l.prog w K mg base CX0 1 C (spInit K C) := fun base => ⟨f2, ⟨mk, a2, i2, kc⟩, by have z := (O2 base).raw b2 .nil; simpa only [List.append_nil] using z⟩
  have O3 : ∀ base : Heap, FnOk l.prog w K mg base CX0 1 f3 _ ["word"] (spReadNumber) := fun base => okPread_number F3 T c b R 
  have D3 : ∀ base : Heap, DefN l.prog w K mg base CX0 1 "read_number" ["word"] (spReadNumber) := fun base => ⟨f3, _, PySem.W.mg_of X G a3, k3, O3 base, b3⟩
  have O4 : ∀ base : Heap, FnOk l.prog w K mg base CX0 1 f4 _ ["length", "offsets"] (spShortest K) := fun base => okPshortest F4 T c b R 
  have D4 : ∀ base : Heap, DefN l.prog w K mg base CX0 1 "shortest" ["length", "offsets"] (spShortest K) := fun base => ⟨f4, _, PySem.W.mg_of X G a4, k4, O4 base, b4⟩
  have O5 : ∀ base : Heap, FnOk l.prog w K mg base CX0 3 f5 _ ["early", "begin", "length", "offsets"] (spNormal K C) := fun base => okPnormal F5 T c b R (D2 base) (D4 base)
  have D5 : ∀ base : Heap, DefN l.prog w K mg base CX0 3 "normal" ["early", "begin", "length", "offsets"] (spNormal K C) := fun base => ⟨f5, _, PySem.W.mg_of X G a5, k5, O5 base, b5⟩
  have O6 : ∀ base : Heap, FnOk l.prog w K mg base CX0 5 f6 _ ["ticks"] (spRowOfTicks K C) := fun base => okProw_of_ticks F6 T c b R (D5 base)
  have D6 : ∀ base : Heap, DefN l.prog w K mg base CX0 5 "row_of_ticks" ["ticks"] (spRowOfTicks K C) := fun base => ⟨f6, _, PySem.W.mg_of X G a6, k6, O6 base, b6⟩
  have O7 : ∀ base : Heap, FnOk l.prog w K mg base CX0 1 f7 _ ["numbers"] (spTicksOf K) := fun base => okPticks_of F7 T c b R 
  have D7 : ∀ base : Heap, DefN l.prog w K mg base CX0 1 "ticks_of" ["numbers"] (spTicksOf K) := fun base => ⟨f7, _, PySem.W.mg_of X G a7, k7, O7 base, b7⟩
  have O8 : ∀ base : Heap, FnOk l.prog w K mg base CX0 5 f8 _ ["start", "first", "laps"] (spRowOfLaps K C) := fun base => okProw_of_laps F8 T c b R (D7 base) (D5 base)
  have D8 : ∀ base : Heap, DefN l.prog w K mg base CX0 5 "row_of_laps" ["start", "first", "laps"] (spRowOfLaps K C) := fun base => ⟨f8, _, PySem.W.mg_of X G a8, k8, O8 base, b8⟩
  have O9 : ∀ base : Heap, FnOk l.prog w K mg base CX0 6 f9 _ ["cls", "text"] (spParse K C) := fun base => okRparse F9 T c b R (D2 base) (D3 base) (D6 base) (D7 base) (D8 base)
  have D9 : ∀ base : Heap, CmN l.prog w K mg base CX0 6 C "parse" (spParse K C) := fun base => ⟨.type "type", p9, f9, ⟨cr1, cr2⟩, ⟨a9, ⟨rs9, i9⟩, n9⟩, by have z := (O9 base).raw b9 .nil; simpa only [List.append_nil] using z⟩
  have O10 : ∀ base : Heap, FnOk l.prog w K mg base CX0 1 f10 _ ["self", "other"] (spEq K C) := fun base => okReq F10 T c b R 
  have D10 : ∀ base : Heap, MetN l.prog w K mg base CX0 1 C "__eq__" ["self", "other"] (spEq K C) := fun base => ⟨f10, _, a10, i10, n10, k10, O10 base, b10⟩
  have E11_0 : ∀ base : Heap, DefN l.prog w K mg base CX0 1 "_law_equal" ["_law_actual", "_law_expected"] (spU K C (upEqual0 0)) := fun base => ⟨f11, _, PySem.W.mg_of X G a11, k11, okLequalZ F11 T c b R, b11⟩
  have E11_1 : ∀ base : Heap, DefN l.prog w K mg base CX0 2 "_law_equal" ["_law_actual", "_law_expected"] (spU K C (upEqual0 1)) := fun base => ⟨f11, _, PySem.W.mg_of X G a11, k11, okLequal0 F11 T c b R (E11_0 base), b11⟩
  have E11_2 : ∀ base : Heap, DefN l.prog w K mg base CX0 3 "_law_equal" ["_law_actual", "_law_expected"] (spU K C (upEqual0 2)) := fun base => ⟨f11, _, PySem.W.mg_of X G a11, k11, okLequal1 F11 T c b R (E11_1 base), b11⟩
  have E11_3 : ∀ base : Heap, DefN l.prog w K mg base CX0 4 "_law_equal" ["_law_actual", "_law_expected"] (spU K C (upEqual0 3)) := fun base => ⟨f11, _, PySem.W.mg_of X G a11, k11, okLequal2 F11 T c b R (E11_2 base), b11⟩
  have D11 : ∀ base : Heap, DefN l.prog w K mg base CX0 5 "_law_equal" ["_law_actual", "_law_expected"] (spU K C (upEqualN 3)) := fun base => ⟨f11, _, PySem.W.mg_of X G a11, k11, okLequal3 F11 T c b R (E11_3 base), b11⟩
  have O12 : ∀ base : Heap, FnOk l.prog w K mg base CX0 1 f12 _ ["self"] (spFlaps K C) := fun base => okRfirst_laps F12 T c b R 
  have D12 : ∀ base : Heap, PropN l.prog w K mg base CX0 1 C "first_laps" (spFlaps K C) := fun base => ⟨p12, f12, _, ⟨a12, b12_0, b12_1, ⟨rs12, b12_2⟩⟩, O12 base, b12⟩
  have O13 : ∀ base : Heap, FnOk l.prog w K mg base CX0 1 f13 _ ["self"] (spLaps K C) := fun base => okRlaps F13 T c b R 
  have D13 : ∀ base : Heap, PropN l.prog w K mg base CX0 1 C "laps" (spLaps K C) := fun base => ⟨p13, f13, _, ⟨a13, b13_0, b13_1, ⟨rs13, b13_2⟩⟩, O13 base, b13⟩
  have O14 : ∀ base : Heap, FnOk l.prog w K mg base CX0 3 f14 _ ["self"] (spText K C) := fun base => okRtext F14 T c b R (D12 base) (D13 base)
  have D14 : ∀ base : Heap, PropN l.prog w K mg base CX0 3 C "text" (spText K C) := fun base => ⟨p14, f14, _, ⟨a14, b14_0, b14_1, ⟨rs14, b14_2⟩⟩, O14 base, b14⟩
  have O15 : ∀ base : Heap, FnOk l.prog w K mg base CX0 1 f15 _ ["value", "low", "high"] (spIii K) := fun base => okPis_int_in F15 T c b R 
  have D15 : ∀ base : Heap, DefN l.prog w K mg base CX0 1 "is_int_in" ["value", "low", "high"] (spIii K) := fun base => ⟨f15, _, PySem.W.mg_of X G a15, k15, O15 base, b15⟩
  let cs : Nat → Addr := fun j => match j with | 0 => e0 | 1 => e1 | 2 => e2 | 3 => e3 | 4 => e4 | 5 => e5 | 6 => e6 | 7 => e7 | 8 => e8 | 9 => e9 | _ => e10
  have G0 : ErrG mg eT cs := ⟨PySem.W.mg_of X G ea_eT, PySem.W.mg_of X G ea_e0, PySem.W.mg_of X G ea_e1, PySem.W.mg_of X G ea_e2, PySem.W.mg_of X G ea_e3, PySem.W.mg_of X G ea_e4, PySem.W.mg_of X G ea_e5, PySem.W.mg_of X G ea_e6, PySem.W.mg_of X G ea_e7, PySem.W.mg_of X G ea_e8, PySem.W.mg_of X G ea_e9, PySem.W.mg_of X G ea_e10⟩
  have nX8 : ErrX K cs 8 ∧ PySem.W.exmOne K (.ref (cs 8)) (.ref eT) = some true := ⟨⟨⟨⟨x8g, x8k, x8b, x8d, x8a, x2, x3, x8m⟩, ⟨x8g, x8k, x8b, x8d⟩, fun n hn => by
    have hn' : n ∈ (["part", "index", "word", "place"] : List Str) := hn
    simp only [List.mem_cons, List.not_mem_nil, or_false] at hn'
    rcases hn' with rfl | rfl | rfl | rfl
    · exact xn8_part
    · exact xn8_index
    · exact xn8_word
    · exact xn8_place⟩, fun j hj => by
    match j, hj with
    | 0, _ => exact kit_cls en_8_e0 ei_e0 et_e0 es_8_e0 rfl
    | 1, _ => exact kit_cls en_8_e1 ei_e1 et_e1 es_8_e1 rfl
    | 2, _ => exact kit_cls en_8_e2 ei_e2 et_e2 es_8_e2 rfl
    | 3, _ => exact kit_cls en_8_e3 ei_e3 et_e3 es_8_e3 rfl
    | 4, _ => exact kit_cls en_8_e4 ei_e4 et_e4 es_8_e4 rfl
    | 5, _ => exact kit_cls en_8_e5 ei_e5 et_e5 es_8_e5 rfl
    | 6, _ => exact kit_cls en_8_e6 ei_e6 et_e6 es_8_e6 rfl
    | 7, _ => exact kit_cls en_8_e7 ei_e7 et_e7 es_8_e7 rfl
    | 8, _ => exact kit_self
    | 9, _ => exact kit_cls en_8_e9 ei_e9 et_e9 es_8_e9 rfl
    | 10, _ => exact kit_cls en_8_e10 ei_e10 et_e10 es_8_e10 rfl, kit_typ (by decide +kernel) x8v, by decide⟩, PySem.W.exm_ref eTb eTd et_eT es_8_eT⟩
  have FI8 := fun_mk (st := (inClass (top 3) 0)) il8 ic8 ik8
  have M8 : ∀ base : Heap, XMk l.prog w K mg base cs 8 "InvalidRow" := fun base => ⟨⟨⟨⟨_, _, _, _, _, _, _, _, _, _, _, _, _, _, _, ox8, or8⟩, os8, x8b, et_e8, x8p⟩, fun n hn => by
    have hn' : n ∈ (["part", "index"] : List Str) := hn
    simp only [List.mem_cons, List.not_mem_nil, or_false] at hn'
    rcases hn' with rfl | rfl
    · exact xn8_part
    · exact xn8_index⟩, ⟨fI8, _, ["self", "part", "index"], ia8, it8, okI8 FI8 (PySem.W.mg_of X G ea_eT) ⟨cT1, cT2⟩ cT3, by
    have z := FI8.binds (ps := ["self", "part", "index"]) fun _ _ _ _ _ _ => lenS fun _ => lenS fun _ => lenS fun _ => len0 rfl
    exact z⟩, PySem.W.mg_of X G ea_e8⟩
  have KK : RowK K C := ⟨⟨_, _, ⟨cr1, cr2⟩, ⟨vC_S, ⟨_, rfl⟩⟩⟩, ⟨_, _, ⟨cr1, cr2⟩, ⟨vC_L, ⟨_, rfl⟩⟩⟩, ⟨_, _, ⟨cr1, cr2⟩, ⟨vC_M, ⟨_, rfl⟩⟩⟩⟩
  have TN : TupN K T0 := ⟨_, _, _, tO, rfl, rfl, by decide, .nil⟩
  have Y_ckl : ∀ base : Heap, DefN l.prog w K mg base (L2N.CX l.prog w) 4 "check_laps" ["part", "laps", "most", "longest"] (spE K C cs gCkl) := fun base => ⟨f16, _, PySem.W.mg_of X G a16, k16, okEckl (cs := cs) F16 T c b R ((D15 base).imp fun _ _ _ _ => ad_iii) (M8 base), b16⟩
  have Y_ofl : ∀ base : Heap, FnRK l.prog w K mg base (L2N.CX l.prog w) 8 fO [] (starKSp 2 (.ref T0) (spE K C cs gOfl)) ∧ FnRK l.prog w K mg base (L2N.CX l.prog w) 8 fO ["first"] (starKSp 2 (.ref T0) (spE K C cs gOfl)) := fun base => okEofl (cs := cs) lO cO dO T c b R KK ((D15 base).imp fun _ _ _ _ => ad_iii) ((D8 base).imp fun _ _ _ _ => ad_rowl) (Y_ckl base) (M8 base)
  have Y_ofl0 : ∀ base : Heap, CmK l.prog w K mg base (L2N.CX l.prog w) 8 C "of_laps" [] (starKSp 2 (.ref T0) (spE K C cs gOfl)) := fun base => ⟨.type "type", pO, fO, ⟨cr1, cr2⟩, ⟨aO, ⟨rsO, iO⟩, nO⟩, (Y_ofl base).1⟩
  have Y_ofl1 : ∀ base : Heap, CmK l.prog w K mg base (L2N.CX l.prog w) 8 C "of_laps" ["first"] (starKSp 2 (.ref T0) (spE K C cs gOfl)) := fun base => ⟨.type "type", pO, fO, ⟨cr1, cr2⟩, ⟨aO, ⟨rsO, iO⟩, nO⟩, (Y_ofl base).2⟩
  have FE := fun_mk (st := (top 36)) lE cdE1 kE1
  have bE := FE.binds (ps := ["_law_call"]) fun _ _ _ _ _ _ => lenS fun _ => len0 rfl
  have F_all : ∀ base : Heap, DefN l.prog w K mg base C8.CX0 11 "_law_all_raise" ["_law_calls", "_law_expected"] (spAllX K eT cs (Thk l.prog w K mg base 9)) := fun base => ⟨gA, _, PySem.W.mg_of X G aA, kA1, okAllr (fun_mk (st := (top 37)) lA cdA1 kA1) ⟨gE, _, PySem.W.mg_of X G aE, kE1, okErrN (cs := cs) b lE cdE1 G0 (PySem.W.mg_none_of X G z_VE), bE⟩, (fun_mk (st := (top 37)) lA cdA1 kA1).binds (ps := ["_law_calls", "_law_expected"]) fun _ _ _ _ _ _ => lenS fun _ => lenS fun _ => len0 rfl⟩
  have F_err : ∀ base : Heap, DefN l.prog w K mg base C8.CX0 10 "_law_error_of" ["_law_call"] (spErrX K eT cs (Thk l.prog w K mg base 9)) := fun base => ⟨gE, _, PySem.W.mg_of X G aE, kE1, okErrN (cs := cs) b lE cdE1 G0 (PySem.W.mg_none_of X G z_VE), bE⟩
  have tb : h.get? PT = some { cls := .none, data := .fields #[] } := own cL PT _ _ _ _ _ _ l17 rfl rfl lcL vL
  refine ⟨_, [(cL, PT)], spLawT K (lamT PT), fun p hp => ?_, fun p hp => ?_, fun p hp => ?_, fun s v => .of_eq rfl, fun H a ns hl _ hT hS => ⟨⟨a, ns, rfl, hS, hl, fun _ => rfl⟩, fun p hp => ?_⟩, fun base _ _ TB => okPlaw (cs := cs) l17 c17 T c b R KK TN (D0 base) ((D1 base).imp fun _ _ _ _ => ad_below) ((D9 base).imp fun _ _ _ _ => ad_parse) ((D10 base).imp fun _ _ _ _ => ad_eq) (D11 base) ((D14 base).imp fun _ _ _ _ => ad_text) (PySem.W.mg_of X G aE) kE1 lE cdE1 bE (TB (cL, PT) (List.mem_singleton.mpr rfl)) G0 (PySem.W.mg_none_of X G z_VE)  (Y_ofl0 base) (Y_ofl1 base)    nX8 (F_err base) (F_all base)⟩
  · rw [List.mem_singleton.mp hp]; exact tb
  · rw [List.mem_singleton.mp hp]; exact nPT
  · rw [List.mem_singleton.mp hp]; exact PySem.W.codeHd_of_K X chd
  · rw [List.mem_singleton.mp hp]; exact LamX.TabS.nil (hT (cL, PT) (List.mem_singleton.mpr rfl))
theorem walk {l : PySem.W.OpenLaw} {q : Program} {loose : List Str} {XP : (Str → Option Value) → Heap → Prop} {YP : World → Heap → Prop} {d : DefRec} {K : Params → PySem.W.Frag} (hn : l.most = some 63) (hdf : d.params.defaults = []) (hrec : ((recsOf q).any fun e => e.name == d.name) = true)
    (hY : ∀ (w : World) (h : Heap), YP w h → (K w.params).In h)
    (F : ∀ (w : World) (mg : Str → Option Value) (fa : Addr) (h : Heap), YP w h → (K w.params).In h → h.Ns mainGlobals mg → mg d.name = some (.ref fa) → LamX.OwnTab (K w.params) fa h → LamX.LawAtS l w (K w.params) CX0 12 63 "_law_script" mg fa h) :
    PySem.W.WalkO q loose XP YP l.row.toRowW d [] (fun f vs => PySem.call f vs) :=
  LamX.walk_ofOwn (n := 63) (k := 12) (x := "_law_script") (CX := fun _ => CX0) hn (by decide) hdf ⟨rfl, by decide, by decide⟩ hrec hY F fun _ _ _ _ _ z => z
end
end TkL
open PySem PySem.W PyProof.Rows in
set_option maxRecDepth 100000 in
set_option maxHeartbeats 0 in
theorem PySem.Challenge.cw_tracktimes_k08_invalid_rows_holds : PySem.Challenge.rw_tracktimes_k08_invalid_rows.Holds := by
  w_on; o_law; k_head; (case hw => w_witness2)
  k_fill
  refine TkL.walk (l := PySem.Challenge.rw_tracktimes_k08_invalid_rows) rfl rfl ?hrec (fun w h Y => PySem.W.km_in_of Y) ?F
  case hrec => first | rfl | decide +kernel
  case F =>
    intro w mg fa h Y KX G hmg own
    refine' TkL.all_mk KX G hmg own ?aC ?a0 ?l0 ?c0 ?k0 ?a1 ?l1 ?c1 ?k1 ?a2 ?i2 ?n2 ?l2 ?c2 ?k2 ?a3 ?l3 ?c3 ?k3 ?a4 ?l4 ?c4 ?k4 ?a5 ?l5 ?c5 ?k5 ?a6 ?l6 ?c6 ?k6 ?a7 ?l7 ?c7 ?k7 ?a8 ?l8 ?c8 ?k8 ?a9 ?i9 ?n9 ?l9 ?c9 ?k9 ?a10 ?i10 ?n10 ?l10 ?c10 ?k10 ?a11 ?l11 ?c11 ?k11 ?a12 ?b12_0 ?b12_1 ?b12_2 ?l12 ?c12 ?k12 ?a13 ?b13_0 ?b13_1 ?b13_2 ?l13 ?c13 ?k13 ?a14 ?b14_0 ?b14_1 ?b14_2 ?l14 ?c14 ?k14 ?a15 ?l15 ?c15 ?k15 ?a16 ?l16 ?c16 ?k16 ?a17 ?l17 ?c17 ?k17 ?lcL ?vL ?nPT ?chd ?pg ?hdd ?po ?sa ?mk ?kc ?sf ?nsq ?ne1 ?ne2 ?x1 ?x2 ?x3 ?x4 ?cr1 ?cr2 ?na_early ?na_begin ?na_length ?na_offsets ?na_marks ?na_parts ?z_range ?z_len ?z_isinstance ?z_bool ?z_int ?z_list ?z_tuple ?z_str ?z_sum ?z_all ?z_any ?z_sorted ?z_dict ?z_max ?z_min ?z_divmod ?z_abs ?z_enumerate ?v_MAX_TICK ?v_MAX_LENGTH ?v_MAX_BEGIN ?v_DIGITS ?v_MAX_DIGITS ?v_NEVER ?v_BAR ?aO ?iO ?nO ?lO ?cO ?dO ?tO ?vC_S ?vC_L ?vC_M ?aE ?lE ?cdE1 ?kE1 ?ea_e0 ?ei_e0 ?et_e0 ?en_8_e0 ?es_8_e0 ?ea_e1 ?ei_e1 ?et_e1 ?en_8_e1 ?es_8_e1 ?ea_e2 ?ei_e2 ?et_e2 ?en_8_e2 ?es_8_e2 ?ea_e3 ?ei_e3 ?et_e3 ?en_8_e3 ?es_8_e3 ?ea_e4 ?ei_e4 ?et_e4 ?en_8_e4 ?es_8_e4 ?ea_e5 ?ei_e5 ?et_e5 ?en_8_e5 ?es_8_e5 ?ea_e6 ?ei_e6 ?et_e6 ?en_8_e6 ?es_8_e6 ?ea_e7 ?ei_e7 ?et_e7 ?en_8_e7 ?es_8_e7 ?ea_e8 ?ei_e8 ?et_e8 ?ea_e9 ?ei_e9 ?et_e9 ?en_8_e9 ?es_8_e9 ?ea_e10 ?ei_e10 ?et_e10 ?en_8_e10 ?es_8_e10 ?ea_eT ?ei_eT ?et_eT ?es_8_eT ?eTb ?eTd ?x8g ?x8k ?x8b ?x8d ?x8a ?x8m ?x8v ?x8p ?xn8_part ?xn8_index ?xn8_word ?xn8_place ?ox8 ?or8 ?os8 ?ia8 ?it8 ?il8 ?ic8 ?ik8 ?cT1 ?cT2 ?cT3 ?aA ?lA ?cdA1 ?kA1 ?z_VE
    (case aC => k_is)
    (case a0 => k_is)
    (case l0 => k_is)
    (case c0 => k_is)
    (case k0 => k_is)
    (case a1 => k_is)
    (case l1 => k_is)
    (case c1 => k_is)
    (case k1 => k_is)
    (case a2 => k_is)
    (case i2 => k_is)
    (case n2 => k_is)
    (case l2 => k_is)
    (case c2 => k_is)
    (case k2 => k_is)
    (case a3 => k_is)
    (case l3 => k_is)
    (case c3 => k_is)
    (case k3 => k_is)
    (case a4 => k_is)
    (case l4 => k_is)
    (case c4 => k_is)
    (case k4 => k_is)
    (case a5 => k_is)
    (case l5 => k_is)
    (case c5 => k_is)
    (case k5 => k_is)
    (case a6 => k_is)
    (case l6 => k_is)
    (case c6 => k_is)
    (case k6 => k_is)
    (case a7 => k_is)
    (case l7 => k_is)
    (case c7 => k_is)
    (case k7 => k_is)
    (case a8 => k_is)
    (case l8 => k_is)
    (case c8 => k_is)
    (case k8 => k_is)
    (case a9 => k_is)
    (case i9 => k_is)
    (case n9 => k_is)
    (case l9 => k_is)
    (case c9 => k_is)
    (case k9 => k_is)
    (case a10 => k_is)
    (case i10 => k_is)
    (case n10 => k_is)
    (case l10 => k_is)
    (case c10 => k_is)
    (case k10 => k_is)
    (case a11 => k_is)
    (case l11 => k_is)
    (case c11 => k_is)
    (case k11 => k_is)
    (case a12 => k_is)
    (case b12_0 => k_is)
    (case b12_1 => k_is)
    (case b12_2 => k_is)
    (case l12 => k_is)
    (case c12 => k_is)
    (case k12 => k_is)
    (case a13 => k_is)
    (case b13_0 => k_is)
    (case b13_1 => k_is)
    (case b13_2 => k_is)
    (case l13 => k_is)
    (case c13 => k_is)
    (case k13 => k_is)
    (case a14 => k_is)
    (case b14_0 => k_is)
    (case b14_1 => k_is)
    (case b14_2 => k_is)
    (case l14 => k_is)
    (case c14 => k_is)
    (case k14 => k_is)
    (case a15 => k_is)
    (case l15 => k_is)
    (case c15 => k_is)
    (case k15 => k_is)
    (case a16 => k_is)
    (case l16 => k_is)
    (case c16 => k_is)
    (case k16 => k_is)
    (case a17 => k_is)
    (case l17 => k_is)
    (case c17 => k_is)
    (case k17 => k_is)
    (case lcL => k_is)
    (case vL => rfl)
    (case nPT => first | k_is | rfl | decide +kernel)
    (case chd => first | k_is | rfl | decide +kernel)
    (case pg => k_is)
    (case hdd => k_is)
    (case po => k_is)
    (case sa => k_is)
    (case mk => k_is)
    (case kc => k_is)
    (case sf => k_is)
    (case nsq => k_is)
    (case ne1 => k_is)
    (case ne2 => k_is)
    (case x1 => k_is)
    (case x2 => k_is)
    (case x3 => k_is)
    (case x4 => k_is)
    (case cr1 => k_is)
    (case cr2 => k_is)
    (case na_early => k_is)
    (case na_begin => k_is)
    (case na_length => k_is)
    (case na_offsets => k_is)
    (case na_marks => k_is)
    (case na_parts => k_is)
    (case z_range => k_is)
    (case z_len => k_is)
    (case z_isinstance => k_is)
    (case z_bool => k_is)
    (case z_int => k_is)
    (case z_list => k_is)
    (case z_tuple => k_is)
    (case z_str => k_is)
    (case z_sum => k_is)
    (case z_all => k_is)
    (case z_any => k_is)
    (case z_sorted => k_is)
    (case z_dict => k_is)
    (case z_max => k_is)
    (case z_min => k_is)
    (case z_divmod => k_is)
    (case z_abs => k_is)
    (case z_enumerate => k_is)
    (case v_MAX_TICK => k_is)
    (case v_MAX_LENGTH => k_is)
    (case v_MAX_BEGIN => k_is)
    (case v_DIGITS => k_is)
    (case v_MAX_DIGITS => k_is)
    (case v_NEVER => k_is)
    (case v_BAR => k_is)
    (case aO => k_is)
    (case iO => k_is)
    (case nO => k_is)
    (case lO => k_is)
    (case cO => k_is)
    (case dO => k_is)
    (case tO => k_is)
    (case vC_S => k_is)
    (case vC_L => k_is)
    (case vC_M => k_is)
    (case aE => k_is)
    (case lE => k_is)
    (case cdE1 => k_is)
    (case kE1 => k_is)
    (case ea_e0 => k_is)
    (case ei_e0 => k_is)
    (case et_e0 => k_is)
    (case ea_e1 => k_is)
    (case ei_e1 => k_is)
    (case et_e1 => k_is)
    (case ea_e2 => k_is)
    (case ei_e2 => k_is)
    (case et_e2 => k_is)
    (case ea_e3 => k_is)
    (case ei_e3 => k_is)
    (case et_e3 => k_is)
    (case ea_e4 => k_is)
    (case ei_e4 => k_is)
    (case et_e4 => k_is)
    (case ea_e5 => k_is)
    (case ei_e5 => k_is)
    (case et_e5 => k_is)
    (case ea_e6 => k_is)
    (case ei_e6 => k_is)
    (case et_e6 => k_is)
    (case ea_e7 => k_is)
    (case ei_e7 => k_is)
    (case et_e7 => k_is)
    (case ea_e8 => k_is)
    (case ei_e8 => k_is)
    (case et_e8 => k_is)
    (case ea_e9 => k_is)
    (case ei_e9 => k_is)
    (case et_e9 => k_is)
    (case ea_e10 => k_is)
    (case ei_e10 => k_is)
    (case et_e10 => k_is)
    (case ea_eT => k_is)
    (case ei_eT => k_is)
    (case et_eT => k_is)
    (case eTb => k_is)
    (case eTd => k_is)
    (case x8g => k_is)
    (case x8k => k_is)
    (case x8b => k_is)
    (case x8d => k_is)
    (case x8a => k_is)
    (case x8m => k_is)
    (case x8v => k_is)
    (case x8p => k_is)
    (case xn8_part => k_is)
    (case xn8_index => k_is)
    (case xn8_word => k_is)
    (case xn8_place => k_is)
    (case ox8 => k_is)
    (case or8 => rfl)
    (case os8 => k_is)
    (case ia8 => k_is)
    (case it8 => k_is)
    (case il8 => k_is)
    (case ic8 => k_is)
    (case ik8 => k_is)
    (case cT1 => k_is)
    (case cT2 => k_is)
    (case cT3 => k_is)
    (case aA => k_is)
    (case lA => k_is)
    (case cdA1 => k_is)
    (case kA1 => k_is)
    (case z_VE => k_is)
    (case en_8_e0 => first | rfl | decide)
    (case es_8_e0 => first | rfl | k_is)
    (case en_8_e1 => first | rfl | decide)
    (case es_8_e1 => first | rfl | k_is)
    (case en_8_e2 => first | rfl | decide)
    (case es_8_e2 => first | rfl | k_is)
    (case en_8_e3 => first | rfl | decide)
    (case es_8_e3 => first | rfl | k_is)
    (case en_8_e4 => first | rfl | decide)
    (case es_8_e4 => first | rfl | k_is)
    (case en_8_e5 => first | rfl | decide)
    (case es_8_e5 => first | rfl | k_is)
    (case en_8_e6 => first | rfl | decide)
    (case es_8_e6 => first | rfl | k_is)
    (case en_8_e7 => first | rfl | decide)
    (case es_8_e7 => first | rfl | k_is)
    (case en_8_e9 => first | rfl | decide)
    (case es_8_e9 => first | rfl | k_is)
    (case en_8_e10 => first | rfl | decide)
    (case es_8_e10 => first | rfl | k_is)
    (case es_8_eT => first | rfl | k_is)

