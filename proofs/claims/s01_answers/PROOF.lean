import PyProof.Rows.All
import Wide.All
import OpenK.AllK
import Wide.FinOn
import Open.SpecLaws
import KE.OsGo
import HandS.ForSpec
import HandS.Comp
import HandS.Evl
import HandS.Wide
import HandS.Deep
import HandS.SortRule
import HandS.Iter
import HandS.Text
import PyProof.StrOps2
import PyProof.StrBlock2
import HandS.HeadHook2
import PySem.Challenge.RW_clockworks_s01_answers
set_option Elab.async false
set_option linter.all false
set_option maxRecDepth 100000
set_option maxHeartbeats 4000000
/-! The fractions of the specification: their value, their normal form. -/
namespace Cw
open Mu07
def val (q : Q) : Rat := (q.n : Rat) / ((q.d : Int) : Rat)
structure Nm (q : Q) : Prop where
  pos : 0 < q.d
  cop : Nat.gcd q.n.natAbs q.d = 1
theorem cast_ne {a : Int} (h : a ≠ 0) : (a : Rat) ≠ 0 := by exact_mod_cast h
theorem Nm.ext {a b : Q} (ha : Nm a) (hb : Nm b) (h : val a = val b) : a = b := by
  have pa := ha.pos
  have pb := hb.pos
  have da : (((a.d : Nat) : Int) : Rat) ≠ 0 := cast_ne (by omega)
  have db : (((b.d : Nat) : Int) : Rat) ≠ 0 := cast_ne (by omega)
  have e : (a.n : Rat) * ((b.d : Int) : Rat) = (b.n : Rat) * ((a.d : Int) : Rat) := by
    unfold val at h
    grind
  have e2 : a.n * (b.d : Int) = b.n * (a.d : Int) := by exact_mod_cast e
  have e3 : a.n.natAbs * b.d = b.n.natAbs * a.d := by
    have := congrArg Int.natAbs e2
    simpa [Int.natAbs_mul] using this
  have c1 : Nat.Coprime a.d a.n.natAbs := by
    have := ha.cop
    rw [Nat.gcd_comm] at this
    exact this
  have c2 : Nat.Coprime b.d b.n.natAbs := by
    have := hb.cop
    rw [Nat.gcd_comm] at this
    exact this
  have d1 : a.d ∣ b.d := c1.dvd_of_dvd_mul_left (by rw [e3]; exact Nat.dvd_mul_left _ _)
  have d2 : b.d ∣ a.d := c2.dvd_of_dvd_mul_left (by rw [← e3]; exact Nat.dvd_mul_left _ _)
  have ed : a.d = b.d := Nat.dvd_antisymm d1 d2
  have en : a.n = b.n := by
    rw [ed] at e2
    exact Int.eq_of_mul_eq_mul_right (by omega) e2
  cases a
  cases b
  simp at ed en
  simp [ed, en]
theorem gcd_pos_of {n d : Int} (h : d ≠ 0) : 0 < Nat.gcd n.natAbs d.natAbs := Nat.gcd_pos_of_pos_right _ (by omega)
theorem frac_zero (n : Int) : frac n 0 = ⟨0, 1⟩ := by simp [frac]
theorem frac_eq {n d : Int} (h : d ≠ 0) : frac n d = ⟨(if d < 0 then -1 else 1) * n / ((Nat.gcd n.natAbs d.natAbs : Nat) : Int), d.natAbs / Nat.gcd n.natAbs d.natAbs⟩ := by
  simp [frac, h]
theorem frac_nm (n d : Int) : Nm (frac n d) := by
  by_cases h : d = 0
  · subst h
    rw [frac_zero]
    exact ⟨by decide, by decide⟩
  · rw [frac_eq h]
    have g := gcd_pos_of (n := n) h
    have k2 : Nat.gcd n.natAbs d.natAbs ∣ d.natAbs := Nat.gcd_dvd_right _ _
    have k1 : Nat.gcd n.natAbs d.natAbs ∣ n.natAbs := Nat.gcd_dvd_left _ _
    refine ⟨Nat.div_pos (Nat.le_of_dvd (by omega) k2) g, ?_⟩
    have e : ((if d < 0 then -1 else 1) * n / ((Nat.gcd n.natAbs d.natAbs : Nat) : Int)).natAbs = n.natAbs / Nat.gcd n.natAbs d.natAbs := by
      have hd : ((Nat.gcd n.natAbs d.natAbs : Nat) : Int) ∣ (if d < 0 then -1 else 1) * n := Int.dvd_mul_of_dvd_right (by
        rw [Int.ofNat_dvd_left]; exact k1)
      rw [Int.natAbs_ediv_of_dvd hd, Int.natAbs_mul]
      split <;> simp
    show Nat.gcd ((if d < 0 then -1 else 1) * n / ((Nat.gcd n.natAbs d.natAbs : Nat) : Int)).natAbs (d.natAbs / Nat.gcd n.natAbs d.natAbs) = 1
    rw [e]
    exact Nat.coprime_div_gcd_div_gcd g
theorem frac_val (n d : Int) : val (frac n d) = (n : Rat) / (d : Rat) := by
  by_cases h : d = 0
  · subst h
    rw [frac_zero]
    show ((0 : Int) : Rat) / _ = _
    grind
  · rw [frac_eq h]
    have g := gcd_pos_of (n := n) h
    generalize hg : Nat.gcd n.natAbs d.natAbs = G at *
    have k2 : G ∣ d.natAbs := by rw [← hg]; exact Nat.gcd_dvd_right _ _
    have k1 : G ∣ n.natAbs := by rw [← hg]; exact Nat.gcd_dvd_left _ _
    have hdn : ((G : Nat) : Int) ∣ n := by rw [Int.ofNat_dvd_left]; exact k1
    have hdd : ((G : Nat) : Int) ∣ d := by rw [Int.ofNat_dvd_left]; exact k2
    obtain ⟨n', en⟩ := hdn
    obtain ⟨d', ed⟩ := hdd
    have G0 : ((G : Nat) : Int) ≠ 0 := by omega
    have Gr : (((G : Nat) : Int) : Rat) ≠ 0 := cast_ne G0
    have d0 : d' ≠ 0 := by
      intro z
      rw [z] at ed
      simp at ed
      exact h ed
    have dr : (d' : Rat) ≠ 0 := cast_ne d0
    have e1 : d.natAbs / G = d'.natAbs := by
      rw [ed, Int.natAbs_mul]
      simp
      exact Nat.mul_div_cancel_left _ g
    have e3 : (d < 0) ↔ d' < 0 := by
      rw [ed]
      constructor
      · intro z
        apply Classical.byContradiction
        intro q
        have : 0 ≤ (G : Int) * d' := Int.mul_nonneg (by omega) (by omega)
        omega
      · intro z
        exact Int.mul_neg_of_pos_of_neg (by omega) z
    have e2 : (if d < 0 then -1 else 1) * n / ((G : Nat) : Int) = (if d' < 0 then -1 else 1) * n' := by
      have : (if d < 0 then (-1 : Int) else 1) = (if d' < 0 then -1 else 1) := by simp [e3]
      rw [this, en]
      rw [show (if d' < 0 then (-1 : Int) else 1) * ((G : Int) * n') = (G : Int) * ((if d' < 0 then -1 else 1) * n') from by
        rw [← Int.mul_assoc, Int.mul_comm _ (G : Int), Int.mul_assoc]]
      exact Int.mul_ediv_cancel_left _ G0
    show (((if d < 0 then -1 else 1) * n / ((G : Nat) : Int) : Int) : Rat) / (((d.natAbs / G : Nat) : Int) : Rat) = _
    rw [e1, e2, en, ed]
    by_cases hs : d' < 0
    · rw [if_pos hs]
      have : ((d'.natAbs : Nat) : Int) = -d' := by omega
      rw [this]
      simp only [Rat.intCast_mul, Rat.intCast_neg]
      grind
    · rw [if_neg hs]
      have : ((d'.natAbs : Nat) : Int) = d' := by omega
      rw [this]
      simp only [Rat.intCast_mul]
      grind
theorem whole_nm (n : Int) : Nm (whole n) := ⟨Nat.one_pos, by simp [whole]⟩
theorem whole_val (n : Int) : val (whole n) = n := by
  show (n : Rat) / (((1 : Nat) : Int) : Rat) = n
  have : (((1 : Nat) : Int) : Rat) = 1 := by rfl
  rw [this]
  grind
theorem Nm.dr {a : Q} (h : Nm a) : ((a.d : Int) : Rat) ≠ 0 := cast_ne (by have := h.pos; omega)
theorem plus_nm (a b : Q) : Nm (a.plus b) := frac_nm _ _
theorem less_nm (a b : Q) : Nm (a.less b) := frac_nm _ _
theorem times_nm (a b : Q) : Nm (a.times b) := frac_nm _ _
theorem over_nm (a b : Q) : Nm (a.over b) := frac_nm _ _
theorem plus_val {a b : Q} (ha : Nm a) (hb : Nm b) : val (a.plus b) = val a + val b := by
  have x := ha.dr
  have y := hb.dr
  unfold Q.plus
  rw [frac_val]
  unfold val
  simp only [Rat.intCast_mul, Rat.intCast_add]
  grind
theorem less_val {a b : Q} (ha : Nm a) (hb : Nm b) : val (a.less b) = val a - val b := by
  have x := ha.dr
  have y := hb.dr
  unfold Q.less
  rw [frac_val]
  unfold val
  simp only [Rat.intCast_mul, Rat.intCast_sub]
  grind
theorem times_val {a b : Q} (ha : Nm a) (hb : Nm b) : val (a.times b) = val a * val b := by
  have x := ha.dr
  have y := hb.dr
  unfold Q.times
  rw [frac_val]
  unfold val
  simp only [Rat.intCast_mul]
  grind
theorem over_val {a b : Q} (ha : Nm a) (hb : Nm b) : val (a.over b) = val a / val b := by
  have x := ha.dr
  have y := hb.dr
  unfold Q.over
  rw [frac_val]
  unfold val
  simp only [Rat.intCast_mul]
  by_cases h : (b.n : Rat) = 0
  · rw [h]; grind
  · grind
theorem zero_iff {a : Q} (ha : Nm a) : a.isZero = true ↔ val a = 0 := by
  have x := ha.dr
  unfold Q.isZero val
  rw [beq_iff_eq]
  constructor
  · intro h
    rw [h]
    grind
  · intro h
    have : (a.n : Rat) = 0 := by grind
    exact_mod_cast this
/-- equal fractions -/
theorem frac_ext {n d n' d' : Int} (hd : d ≠ 0) (hd' : d' ≠ 0) (h : n * d' = n' * d) : frac n d = frac n' d' := by
  refine (frac_nm _ _).ext (frac_nm _ _) ?_
  rw [frac_val, frac_val]
  have a := cast_ne hd
  have b := cast_ne hd'
  have e : (n : Rat) * (d' : Rat) = (n' : Rat) * (d : Rat) := by exact_mod_cast h
  grind
end Cw

/-! Rows brought to their form: what they tell is what all solutions share. Rows are functions, column n is what they come to. -/
namespace Cw
def sumTo : Nat → (Nat → Rat) → Rat
  | 0, _ => 0
  | n + 1, f => sumTo n f + f n
theorem sum_congr : ∀ {n : Nat} {f g : Nat → Rat}, (∀ j, j < n → f j = g j) → sumTo n f = sumTo n g
  | 0, _, _, _ => rfl
  | n + 1, f, g, h => by
    show sumTo n f + f n = sumTo n g + g n
    rw [sum_congr (fun j hj => h j (by omega)), h n (by omega)]
theorem sum_lin (a b : Rat) (f g : Nat → Rat) : ∀ n, sumTo n (fun j => a * f j + b * g j) = a * sumTo n f + b * sumTo n g
  | 0 => by show (0 : Rat) = a * 0 + b * 0; grind
  | n + 1 => by
    show sumTo n (fun j => a * f j + b * g j) + (a * f n + b * g n) = a * (sumTo n f + f n) + b * (sumTo n g + g n)
    rw [sum_lin a b f g n]
    grind
theorem sum_zero : ∀ {n : Nat} {f : Nat → Rat}, (∀ j, j < n → f j = 0) → sumTo n f = 0
  | 0, _, _ => rfl
  | n + 1, f, h => by
    show sumTo n f + f n = 0
    rw [sum_zero (fun j hj => h j (by omega)), h n (by omega)]
    grind
theorem sum_one : ∀ {n : Nat} {f : Nat → Rat} {i : Nat}, i < n → (∀ j, j < n → j ≠ i → f j = 0) → sumTo n f = f i
  | 0, _, _, h, _ => by omega
  | n + 1, f, i, h, z => by
    show sumTo n f + f n = f i
    by_cases e : i = n
    · subst e
      rw [sum_zero fun j hj => z j (by omega) (by omega)]
      grind
    · rw [sum_one (i := i) (by omega) fun j hj hn => z j (by omega) hn, z n (by omega) (by omega)]
      grind
theorem sum_two : ∀ {n : Nat} {f : Nat → Rat} {i k : Nat}, i < n → k < n → i ≠ k → (∀ j, j < n → j ≠ i → j ≠ k → f j = 0) → sumTo n f = f i + f k
  | 0, _, _, _, h, _, _, _ => by omega
  | n + 1, f, i, k, h, hk, ik, z => by
    show sumTo n f + f n = f i + f k
    by_cases e : i = n
    · subst e
      rw [sum_one (i := k) (by omega) fun j hj hn => z j (by omega) (by omega) hn]
      grind
    · by_cases e2 : k = n
      · subst e2
        rw [sum_one (i := i) (by omega) fun j hj hn => z j (by omega) hn (by omega)]
      · rw [sum_two (i := i) (k := k) (by omega) (by omega) ik fun j hj h1 h2 => z j (by omega) h1 h2, z n (by omega) (by omega) (by omega)]
        grind
abbrev AR := Nat → Rat
def Sat (n : Nat) (r : AR) (x : AR) : Prop := sumTo n (fun j => r j * x j) = r n
/-- y is a times x and b times p -/
theorem sat_comb {n : Nat} {x p y : AR} {a b : Rat} {v : AR} (h : ∀ j, j ≤ n → y j = a * x j + b * p j) (hx : Sat n x v) (hp : Sat n p v) : Sat n y v := by
  unfold Sat at *
  rw [h n (Nat.le_refl _), ← hx, ← hp, ← sum_lin]
  refine sum_congr fun j hj => ?_
  rw [h j (by omega)]
  grind
theorem sat_back {n : Nat} {x p y : AR} {a b : Rat} {v : AR} (ha : a ≠ 0) (h : ∀ j, j ≤ n → y j = a * x j + b * p j) (hy : Sat n y v) (hp : Sat n p v) : Sat n x v :=
  sat_comb (a := 1 / a) (b := - b / a) (x := y) (p := p) (fun j hj => by rw [h j hj]; grind) hy hp
/-- y is x with nothing left in column i -/
def Elim (n i : Nat) (r x y : AR) : Prop := y i = 0 ∧ ∃ a b : Rat, a ≠ 0 ∧ ∀ j, j ≤ n → y j = a * x j + b * r j
/-- rows P with a column each, rows Z that have nothing ahead of column i -/
structure Ech (n i : Nat) (P Z : List AR) (cs : List Nat) : Prop where
  len : P.length = cs.length
  lt : ∀ c ∈ cs, c < i
  nz : ∀ (k c : Nat) (r : AR), P[k]? = some r → cs[k]? = some c → r c ≠ 0
  z : ∀ (k l c : Nat) (r : AR), P[k]? = some r → cs[l]? = some c → k ≠ l → r c = 0
  zero : ∀ z ∈ Z, ∀ j, j < i → z j = 0
structure Step (n i : Nat) (P Z P' Z' : List AR) : Prop where
  ex : ∃ (r r' : AR) (P1 : List AR), r ∈ Z ∧ r i ≠ 0 ∧ P' = P1 ++ [r'] ∧ (∃ a : Rat, a ≠ 0 ∧ ∀ j, j ≤ n → r' j = a * r j) ∧ P1.length = P.length ∧
    (∀ (k : Nat) (x y : AR), P[k]? = some x → P1[k]? = some y → Elim n i r x y) ∧ (∀ z' ∈ Z', ∃ z ∈ Z, Elim n i r z z') ∧ (∀ z ∈ Z, (∀ j, j ≤ n → z j = r j) ∨ ∃ z' ∈ Z', Elim n i r z z')
def All (n : Nat) (P Z : List AR) (x : AR) : Prop := ∀ r, r ∈ P ∨ r ∈ Z → Sat n r x
theorem Ech.stay {n i : Nat} {P Z : List AR} {cs : List Nat} (h : Ech n i P Z cs) (hz : ∀ z ∈ Z, z i = 0) : Ech n (i + 1) P Z cs :=
  ⟨h.len, fun c hc => Nat.lt_succ_of_lt (h.lt c hc), h.nz, h.z, fun z m j hj => by
    by_cases e : j = i
    · rw [e]; exact hz z m
    · exact h.zero z m j (by omega)⟩
theorem Ech.step {n i : Nat} {P Z P' Z' : List AR} {cs : List Nat} (h : Ech n i P Z cs) (s : Step n i P Z P' Z') (hi : i < n) : Ech n (i + 1) P' Z' (cs ++ [i]) := by
  obtain ⟨r, r', P1, hr, r0, rfl, ⟨a, a0, ha⟩, hl, hP, hZ', _⟩ := s.ex
  have hl2 := h.len
  have old : ∀ {k : Nat} {y : AR}, (P1 ++ [r'])[k]? = some y → (k < P.length ∧ ∃ x, P[k]? = some x ∧ P1[k]? = some y ∧ Elim n i r x y) ∨ (k = P.length ∧ y = r') := fun {k y} e => by
    by_cases hk : k < P1.length
    · rw [List.getElem?_append_left hk] at e
      have hk2 : k < P.length := by omega
      exact .inl ⟨hk2, P[k], List.getElem?_eq_getElem hk2, e, hP k _ _ (List.getElem?_eq_getElem hk2) e⟩
    · rw [List.getElem?_append_right (by omega)] at e
      cases q : k - P1.length with
      | zero =>
        rw [q] at e
        exact .inr ⟨by omega, (Option.some.inj e).symm⟩
      | succ m =>
        rw [q] at e
        simp at e
  have col : ∀ {l c : Nat}, (cs ++ [i])[l]? = some c → (l < P.length ∧ cs[l]? = some c ∧ c < i) ∨ (l = P.length ∧ c = i) := fun {l c} e => by
    by_cases hk : l < cs.length
    · rw [List.getElem?_append_left hk] at e
      exact .inl ⟨by omega, e, h.lt c (List.mem_of_getElem? e)⟩
    · rw [List.getElem?_append_right (by omega)] at e
      cases q : l - cs.length with
      | zero =>
        rw [q] at e
        exact .inr ⟨by omega, (Option.some.inj e).symm⟩
      | succ m =>
        rw [q] at e
        simp at e
  have rz : ∀ c, c < i → r c = 0 := fun c hc => h.zero r hr c hc
  refine ⟨by simp; omega, fun c hc => ?_, fun k c y ey ec => ?_, fun k l c y ey ec ne => ?_, fun z' m j hj => ?_⟩
  · rcases List.mem_append.mp hc with m | m
    · have := h.lt c m; omega
    · have : c = i := by simpa using m
      omega
  · rcases old ey with ⟨k1, x, ex, ey1, ⟨e0, a', b', a0', e⟩⟩ | ⟨k1, rfl⟩
    · rcases col ec with ⟨_, ec1, lt⟩ | ⟨z, _⟩
      · rw [e c (by omega), rz c lt]
        have := h.nz k c x ex ec1
        grind
      · omega
    · rcases col ec with ⟨z, _⟩ | ⟨_, rfl⟩
      · omega
      · rw [ha c (by omega)]
        grind
  · rcases old ey with ⟨k1, x, ex, ey1, ⟨e0, a', b', a0', e⟩⟩ | ⟨k1, rfl⟩
    · rcases col ec with ⟨_, ec1, lt⟩ | ⟨_, rfl⟩
      · rw [e c (by omega), rz c lt, h.z k l c x ex ec1 ne]
        grind
      · exact e0
    · rcases col ec with ⟨_, ec1, lt⟩ | ⟨z, _⟩
      · rw [ha c (by omega), rz c lt]
        grind
      · omega
  · obtain ⟨z, mz, ⟨e0, a', b', a0', e⟩⟩ := hZ' z' m
    by_cases q : j = i
    · rw [q]; exact e0
    · rw [e j (by omega), rz j (by omega), h.zero z mz j (by omega)]
      grind
theorem Step.sat {n i : Nat} {P Z P' Z' : List AR} (s : Step n i P Z P' Z') (x : AR) : All n P Z x ↔ All n P' Z' x := by
  obtain ⟨r, r', P1, hr, r0, rfl, ⟨a, a0, ha⟩, hl, hP, hZ', hZ⟩ := s.ex
  constructor
  · intro h
    have hsr : Sat n r x := h r (.inr hr)
    intro y hy
    rcases hy with hy | hy
    · rcases List.mem_append.mp hy with m | m
      · obtain ⟨k, hk, rfl⟩ := List.mem_iff_getElem.mp m
        have hk2 : k < P.length := by omega
        obtain ⟨_, a', b', a0', e⟩ := hP k _ _ (List.getElem?_eq_getElem hk2) (List.getElem?_eq_getElem hk)
        exact sat_comb e (h _ (.inl (List.getElem_mem hk2))) hsr
      · have : y = r' := by simpa using m
        subst this
        exact sat_comb (a := a) (b := 0) (p := r) (fun j hj => by rw [ha j hj]; grind) hsr hsr
    · obtain ⟨z, mz, ⟨_, a', b', a0', e⟩⟩ := hZ' y hy
      exact sat_comb e (h z (.inr mz)) hsr
  · intro h
    have hr' : Sat n r' x := h r' (.inl (by simp))
    have hsr : Sat n r x := sat_back (a := a) (b := 0) (p := r') a0 (fun j hj => by rw [ha j hj]; grind) hr' hr'
    intro y hy
    rcases hy with m | m
    · obtain ⟨k, hk, rfl⟩ := List.mem_iff_getElem.mp m
      have hk2 : k < P1.length := by omega
      obtain ⟨_, a', b', a0', e⟩ := hP k _ _ (List.getElem?_eq_getElem hk) (List.getElem?_eq_getElem hk2)
      exact sat_back a0' e (h _ (.inl (List.mem_append.mpr (.inl (List.getElem_mem hk2))))) hsr
    · rcases hZ y m with e | ⟨z', mz', ⟨_, a', b', a0', e⟩⟩
      · exact sat_comb (a := 1) (b := 0) (x := r) (p := r) (fun j hj => by rw [e j hj]; grind) hsr hsr
      · exact sat_back a0' e (h z' (.inr mz')) hsr

/-! ### the end: what the form tells -/
section
variable {n : Nat} {P Z : List AR} {cs : List Nat}
/-- free columns take v, the others what their row wants -/
def pick (P : List AR) (cs : List Nat) (n : Nat) (v : AR) (c : Nat) : Rat := match cs.findIdx? (· == c) with
  | some k => match P[k]? with
    | some r => (r n - sumTo n (fun j => if cs.contains j then 0 else r j * v j)) / r c
    | none => 0
  | none => v c
theorem Ech.cs_inj (h : Ech n n P Z cs) {k l c : Nat} (a : cs[k]? = some c) (b : cs[l]? = some c) : k = l := by
  apply Classical.byContradiction
  intro ne
  have hk : k < P.length := by
    rw [h.len]; exact (List.getElem?_eq_some_iff.mp a).1
  exact h.nz k c _ (List.getElem?_eq_getElem hk) a (h.z k l c _ (List.getElem?_eq_getElem hk) b ne)
theorem Ech.pick_at (h : Ech n n P Z cs) {k c : Nat} {r : AR} (v : AR) (a : cs[k]? = some c) (b : P[k]? = some r) : pick P cs n v c = (r n - sumTo n (fun j => if cs.contains j then 0 else r j * v j)) / r c := by
  unfold pick
  have e : cs.findIdx? (· == c) = some k := by
    rw [List.findIdx?_eq_some_iff_getElem]
    obtain ⟨hk, ek⟩ := List.getElem?_eq_some_iff.mp a
    refine ⟨hk, by simp [ek], fun j hj => ?_⟩
    intro z
    have ej : cs[j] = c := by simpa using z
    have := h.cs_inj (k := j) (l := k) (c := c) (by rw [List.getElem?_eq_getElem (by omega), ej]) a
    omega
  rw [e]
  dsimp only
  rw [b]
theorem pick_free {v : AR} {c : Nat} (hc : c ∉ cs) : pick P cs n v c = v c := by
  unfold pick
  have e : cs.findIdx? (· == c) = none := by
    rw [List.findIdx?_eq_none_iff]
    intro x hx
    have : x ≠ c := fun z => hc (z ▸ hx)
    simpa using this
  rw [e]
theorem sum_split (f g : Nat → Rat) : ∀ n, sumTo n (fun j => f j + g j) = sumTo n f + sumTo n g
  | 0 => by show (0 : Rat) = 0 + 0; grind
  | n + 1 => by
    show sumTo n (fun j => f j + g j) + (f n + g n) = (sumTo n f + f n) + (sumTo n g + g n)
    rw [sum_split f g n]
    grind
theorem Ech.pick_sat (h : Ech n n P Z cs) (hz : ∀ z ∈ Z, z n = 0) (v : AR) : All n P Z (pick P cs n v) := by
  intro r hr
  rcases hr with m | m
  · obtain ⟨k, hk, rfl⟩ := List.mem_iff_getElem.mp m
    have hk2 : k < cs.length := by rw [← h.len]; exact hk
    have ea : cs[k]? = some cs[k] := List.getElem?_eq_getElem hk2
    have eb : P[k]? = some P[k] := List.getElem?_eq_getElem hk
    have nz := h.nz k _ _ eb ea
    have lt := h.lt cs[k] (List.getElem_mem hk2)
    unfold Sat
    have e1 : sumTo n (fun j => P[k] j * pick P cs n v j) = sumTo n (fun j => (if j = cs[k] then P[k] j * pick P cs n v j else 0) + (if cs.contains j then 0 else P[k] j * v j)) := by
      refine sum_congr fun j hj => ?_
      by_cases e : j = cs[k]
      · rw [if_pos e, if_pos (by rw [e]; simp)]
        grind
      · rw [if_neg e]
        by_cases hc : j ∈ cs
        · rw [if_pos (by simpa using hc)]
          obtain ⟨l, hl, el⟩ := List.mem_iff_getElem.mp hc
          have zz := h.z k l j _ eb (by rw [List.getElem?_eq_getElem hl, el]) (by intro q; subst q; exact e el.symm)
          rw [zz]
          grind
        · rw [if_neg (by simpa using hc), pick_free hc]
          grind
    rw [e1, sum_split, sum_one (i := cs[k]) lt (fun j hj hn => if_neg hn), if_pos rfl, h.pick_at v ea eb]
    grind
  · unfold Sat
    rw [hz r m]
    exact sum_zero fun j hj => by
      rw [h.zero r m j hj]
      grind
theorem Ech.sol (h : Ech n n P Z cs) : (∃ x, All n P Z x) ↔ ∀ z ∈ Z, z n = 0 := by
  constructor
  · rintro ⟨x, hx⟩ z m
    have s := hx z (.inr m)
    unfold Sat at s
    rw [← s]
    exact sum_zero fun j hj => by
      rw [h.zero z m j hj]
      grind
  · intro hz
    exact ⟨_, h.pick_sat hz fun _ => 0⟩
/-- a row with one column says what is there -/
theorem one_col {r x : AR} {i : Nat} (hi : i < n) (h0 : r i ≠ 0) (h : ∀ j, j < n → j ≠ i → r j = 0) (s : Sat n r x) : x i = r n / r i := by
  unfold Sat at s
  rw [sum_one (i := i) hi (fun j hj hn => by rw [h j hj hn]; grind)] at s
  rw [← s]
  grind
/-- what all solutions share stands in a row of its own -/
theorem Ech.det (h : Ech n n P Z cs) (hz : ∀ z ∈ Z, z n = 0) {i : Nat} (hi : i < n) {q : Rat} (hq : ∀ x, All n P Z x → x i = q) : ∃ r ∈ P, r i ≠ 0 ∧ ∀ j, j < n → j ≠ i → r j = 0 := by
  by_cases hc : i ∈ cs
  · obtain ⟨k, hk, ek⟩ := List.mem_iff_getElem.mp hc
    have hk2 : k < P.length := by rw [h.len]; exact hk
    have ea : cs[k]? = some i := by rw [List.getElem?_eq_getElem hk, ek]
    have eb : P[k]? = some P[k] := List.getElem?_eq_getElem hk2
    have nz := h.nz k _ _ eb ea
    refine ⟨P[k], List.getElem_mem hk2, nz, fun j hj hn => ?_⟩
    apply Classical.byContradiction
    intro ne
    have hjc : j ∉ cs := fun m => by
      obtain ⟨l, hl, el⟩ := List.mem_iff_getElem.mp m
      exact ne (h.z k l j _ eb (by rw [List.getElem?_eq_getElem hl, el]) (by
        intro z
        subst z
        rw [ek] at el
        exact hn el.symm))
    have s0 := hq _ (h.pick_sat hz fun _ => 0)
    have s1 := hq _ (h.pick_sat hz fun c => if c = j then 1 else 0)
    rw [h.pick_at _ ea eb] at s0 s1
    rw [sum_zero (fun l hl => by split <;> grind)] at s0
    rw [sum_one (i := j) hj (fun l hl hne => by
      split
      · rfl
      · grind)] at s1
    rw [if_neg (by simpa using hjc), if_pos rfl] at s1
    have : P[k] n / P[k] i = (P[k] n - P[k] j) / P[k] i := by grind
    have : P[k] j = 0 := by grind
    exact ne this
  · have s0 := hq _ (h.pick_sat hz fun _ => 0)
    have s1 := hq _ (h.pick_sat hz fun _ => 1)
    rw [pick_free hc] at s0 s1
    have : (0 : Rat) = 1 := s0.trans s1.symm
    exact absurd this (by decide)
end
end Cw

/-! The program's rows and the specification's rows, each brought to the form by steps; what both tell is the same. -/
namespace Cw
open Mu07
/-! ### the program's rows, as the program makes them -/
def gcdAll (r : List Int) : Int := r.foldl (fun d x => ((Nat.gcd x.natAbs d.natAbs : Nat) : Int)) 0
def shortened (r : List Int) : List Int := if gcdAll r = 0 then r else r.map (· / gcdAll r)
def rawOf (row pivot : List Int) (c : Nat) : List Int := (List.range row.length).map fun j => row.getD j 0 * pivot.getD c 0 - pivot.getD j 0 * row.getD c 0
def without (row pivot : List Int) (c : Nat) : List Int := shortened (rawOf row pivot c)
def at2 (rows : List (List Int)) (p c : Nat) : Int := (rows.getD p []).getD c 0
def rowWith (rows : List (List Int)) (start c : Nat) : Option Nat := (List.range rows.length).find? fun p => decide (start ≤ p) && decide (at2 rows p c ≠ 0)
def swapped (left : List (List Int)) (done p : Nat) : List (List Int) := (left.set p (left.getD done [])).set done (left.getD p [])
def clearRow (pivot : List Int) (done c o : Nat) (r : List Int) : List Int := if o ≠ done ∧ r.getD c 0 ≠ 0 then without r pivot c else r
def redStep (st : List (List Int) × Nat) (c : Nat) : List (List Int) × Nat := match rowWith st.1 st.2 c with
  | none => st
  | some p => ((swapped st.1 st.2 p).mapIdx (clearRow (st.1.getD p []) st.2 c), st.2 + 1)
def redTo (rows : List (List Int)) (n : Nat) : List (List Int) × Nat := (List.range n).foldl redStep (rows, 0)
def reduced (rows : List (List Int)) (n : Nat) : List (List Int) := (redTo rows n).1
def used (r : List Int) : List Nat := (List.range (r.length - 1)).filter fun j => decide (r.getD j 0 ≠ 0)
def lastOf (r : List Int) : Int := r.getD (r.length - 1) 0
def areLocked (rows : List (List Int)) : Bool := rows.any fun r => decide ((used r).length = 0) && decide (lastOf r ≠ 0)
def rateIn (rows : List (List Int)) (c : Nat) : Option Q := (rows.find? fun r => used r == [c]).map fun r => frac (lastOf r) (r.getD c 0)
theorem redTo_succ (rows : List (List Int)) (n : Nat) : redTo rows (n + 1) = redStep (redTo rows n) n := by
  unfold redTo
  rw [List.range_succ, List.foldl_append]
  rfl
/-! ### as functions -/
def ab (r : List Int) : AR := fun j => (r.getD j 0 : Rat)
def abs_ (l : List (List Int)) : List AR := l.map ab
theorem gcdAll_dvd_aux : ∀ (r : List Int) (d : Int), (r.foldl (fun d x => ((Nat.gcd x.natAbs d.natAbs : Nat) : Int)) d) ∣ d ∧ ∀ x ∈ r, (r.foldl (fun d x => ((Nat.gcd x.natAbs d.natAbs : Nat) : Int)) d) ∣ x
  | [], d => ⟨Int.dvd_refl _, fun x hx => by simp at hx⟩
  | y :: r, d => by
    obtain ⟨h1, h2⟩ := gcdAll_dvd_aux r ((Nat.gcd y.natAbs d.natAbs : Nat) : Int)
    rw [List.foldl_cons]
    have gy : ((Nat.gcd y.natAbs d.natAbs : Nat) : Int) ∣ y := by rw [Int.ofNat_dvd_left]; exact Nat.gcd_dvd_left _ _
    have gd : ((Nat.gcd y.natAbs d.natAbs : Nat) : Int) ∣ d := by rw [Int.ofNat_dvd_left]; exact Nat.gcd_dvd_right _ _
    refine ⟨Int.dvd_trans h1 gd, fun x hx => ?_⟩
    rcases List.mem_cons.mp hx with e | m
    · rw [e]; exact Int.dvd_trans h1 gy
    · exact h2 x m
theorem gcdAll_dvd (r : List Int) : ∀ x ∈ r, gcdAll r ∣ x := (gcdAll_dvd_aux r 0).2
theorem gcdAll_nn_aux : ∀ (r : List Int) (d : Int), 0 ≤ d → 0 ≤ r.foldl (fun d x => ((Nat.gcd x.natAbs d.natAbs : Nat) : Int)) d
  | [], _, h => h
  | _ :: r, _, _ => gcdAll_nn_aux r _ (Int.natCast_nonneg _)
theorem gcdAll_nn (r : List Int) : 0 ≤ gcdAll r := gcdAll_nn_aux r 0 (Int.le_refl 0)
theorem ab_raw {row pivot : List Int} {c j : Nat} (hj : j < row.length) : ab (rawOf row pivot c) j = (pivot.getD c 0 : Rat) * ab row j + (-(row.getD c 0) : Rat) * ab pivot j := by
  unfold ab rawOf
  rw [List.getD_eq_getElem?_getD, List.getElem?_map, List.getElem?_range hj]
  simp only [Option.map_some, Option.getD_some, Rat.intCast_sub, Rat.intCast_mul]
  grind
theorem ab_short (r : List Int) : ∃ a : Rat, a ≠ 0 ∧ ∀ j, j < r.length → ab (shortened r) j = a * ab r j := by
  unfold shortened
  by_cases h : gcdAll r = 0
  · rw [if_pos h]
    exact ⟨1, by decide, fun j _ => by grind⟩
  · rw [if_neg h]
    have hr : (gcdAll r : Rat) ≠ 0 := cast_ne h
    refine ⟨1 / (gcdAll r : Rat), by grind, fun j hj => ?_⟩
    unfold ab
    rw [List.getD_eq_getElem?_getD, List.getD_eq_getElem?_getD, List.getElem?_map, List.getElem?_eq_getElem hj]
    simp only [Option.map_some, Option.getD_some]
    obtain ⟨k, ek⟩ := gcdAll_dvd r r[j] (List.getElem_mem hj)
    rw [ek, Int.mul_ediv_cancel_left _ h, Rat.intCast_mul]
    grind
theorem short_len (r : List Int) : (shortened r).length = r.length := by
  unfold shortened
  split
  · rfl
  · simp
theorem raw_len (row pivot : List Int) (c : Nat) : (rawOf row pivot c).length = row.length := by simp [rawOf]
theorem without_len (row pivot : List Int) (c : Nat) : (without row pivot c).length = row.length := by
  unfold without
  rw [short_len, raw_len]
/-- taking the pivot's row off -/
theorem elim_without {n : Nat} {row pivot : List Int} {c : Nat} (hr : row.length = n + 1) (hc : c < n) (hp : pivot.getD c 0 ≠ 0) : Elim n c (ab pivot) (ab row) (ab (without row pivot c)) := by
  obtain ⟨a, a0, ha⟩ := ab_short (rawOf row pivot c)
  have e : ∀ j, j ≤ n → ab (without row pivot c) j = (a * (pivot.getD c 0 : Rat)) * ab row j + (a * (-(row.getD c 0) : Rat)) * ab pivot j := fun j hj => by
    show ab (shortened (rawOf row pivot c)) j = _
    rw [ha j (by rw [raw_len]; omega), ab_raw (by omega)]
    grind
  refine ⟨?_, _, _, ?_, e⟩
  · rw [e c (by omega)]
    unfold ab
    grind
  · have := cast_ne hp
    grind
theorem elim_same {n c : Nat} {r x : AR} (h : x c = 0) : Elim n c r x x := ⟨h, 1, 0, by decide, fun j _ => by grind⟩
theorem elim_clear {n : Nat} {row pivot : List Int} {c o done : Nat} (hr : row.length = n + 1) (hc : c < n) (hp : pivot.getD c 0 ≠ 0) (ho : o ≠ done) : Elim n c (ab pivot) (ab row) (ab (clearRow pivot done c o row)) := by
  unfold clearRow
  by_cases h : row.getD c 0 = 0
  · rw [if_neg fun z => z.2 h]
    exact elim_same (by unfold ab; rw [h]; rfl)
  · rw [if_pos ⟨ho, h⟩]
    exact elim_without hr hc hp
theorem clear_len {n : Nat} {row pivot : List Int} {c o done : Nat} (hr : row.length = n + 1) : (clearRow pivot done c o row).length = n + 1 := by
  unfold clearRow
  split
  · rw [without_len]; exact hr
  · exact hr
theorem rowWith_some {rows : List (List Int)} {s c p : Nat} (h : rowWith rows s c = some p) : p < rows.length ∧ s ≤ p ∧ at2 rows p c ≠ 0 := by
  unfold rowWith at h
  have m := List.mem_of_find?_eq_some h
  have q := List.find?_some h
  simp at m q
  exact ⟨m, q.1, q.2⟩
theorem rowWith_none {rows : List (List Int)} {s c : Nat} (h : rowWith rows s c = none) : ∀ p, p < rows.length → s ≤ p → at2 rows p c = 0 := fun p hp hs => by
  unfold rowWith at h
  rw [List.find?_eq_none] at h
  have := h p (by simpa using hp)
  simp only [Bool.and_eq_true, decide_eq_true_eq, not_and] at this
  exact Classical.byContradiction fun z => this hs z
theorem getD_get {α : Type} {l : List α} {d : α} {k : Nat} (h : k < l.length) : l.getD k d = l[k] := by
  rw [List.getD_eq_getElem?_getD, List.getElem?_eq_getElem h]
  rfl
theorem swapped_len (left : List (List Int)) (d p : Nat) : (swapped left d p).length = left.length := by simp [swapped]
theorem swapped_get {left : List (List Int)} {d p k : Nat} (hd : d < left.length) (hp : p < left.length) (hk : k < left.length) :
    (swapped left d p)[k]'(by rw [swapped_len]; exact hk) = if k = d then left[p] else if k = p then left[d] else left[k] := by
  unfold swapped
  rw [List.getElem_set, List.getElem_set]
  by_cases e : k = d
  · rw [if_pos e.symm, if_pos e, getD_get hp]
  · rw [if_neg (fun z => e z.symm), if_neg e]
    by_cases e2 : k = p
    · rw [if_pos e2.symm, if_pos e2, getD_get hd]
    · rw [if_neg (fun z => e2 z.symm), if_neg e2]
/-- the program's state at column c: so many rows are done -/
structure RowsOk (n : Nat) (l : List (List Int)) : Prop where
  len : ∀ r ∈ l, r.length = n + 1
theorem red_step {n c : Nat} {st : List (List Int) × Nat} {cs : List Nat} (hn : ∀ r ∈ st.1, r.length = n + 1) (hc : c < n) (hd : st.2 ≤ st.1.length) (E : Ech n c (abs_ (st.1.take st.2)) (abs_ (st.1.drop st.2)) cs) :
    ∃ cs', Ech n (c + 1) (abs_ ((redStep st c).1.take (redStep st c).2)) (abs_ ((redStep st c).1.drop (redStep st c).2)) cs' ∧ (∀ r ∈ (redStep st c).1, r.length = n + 1) ∧ (redStep st c).2 ≤ (redStep st c).1.length ∧
      ∀ x, All n (abs_ (st.1.take st.2)) (abs_ (st.1.drop st.2)) x ↔ All n (abs_ ((redStep st c).1.take (redStep st c).2)) (abs_ ((redStep st c).1.drop (redStep st c).2)) x := by
  obtain ⟨left, d⟩ := st
  dsimp only at hn hd E ⊢
  unfold redStep
  dsimp only
  cases hw : rowWith left d c with
  | none =>
    refine ⟨cs, E.stay fun z hz => ?_, hn, hd, fun x => Iff.rfl⟩
    obtain ⟨r, hr, rfl⟩ := List.mem_map.mp hz
    obtain ⟨k, hk, rfl⟩ := List.mem_iff_getElem.mp hr
    rw [List.length_drop] at hk
    rw [List.getElem_drop]
    have := rowWith_none hw (d + k) (by omega) (by omega)
    unfold at2 at this
    have hk2 : d + k < left.length := by omega
    rw [getD_get hk2] at this
    unfold ab
    rw [this]
    rfl
  | some p =>
    obtain ⟨hp, hdp, h0⟩ := rowWith_some hw
    dsimp only
    have hdl : d < left.length := by omega
    have pe : left.getD p [] = left[p] := getD_get hp
    rw [pe]
    unfold at2 at h0
    rw [pe] at h0
    have sl := swapped_len left d p
    have ml : ((swapped left d p).mapIdx (clearRow left[p] d c)).length = left.length := by rw [List.length_mapIdx, sl]
    have hnl : ∀ k (hk : k < left.length), left[k].length = n + 1 := fun k hk => hn _ (List.getElem_mem hk)
    have gets : ∀ k (hk : k < left.length), ((swapped left d p).mapIdx (clearRow left[p] d c))[k]'(by rw [ml]; exact hk) = clearRow left[p] d c k (if k = d then left[p] else if k = p then left[d] else left[k]) := fun k hk => by
      rw [List.getElem_mapIdx, swapped_get hdl hp hk]
    have S : Step n c (abs_ (left.take d)) (abs_ (left.drop d)) (abs_ (((swapped left d p).mapIdx (clearRow left[p] d c)).take (d + 1))) (abs_ (((swapped left d p).mapIdx (clearRow left[p] d c)).drop (d + 1))) := by
      refine ⟨ab left[p], ab left[p], abs_ (((swapped left d p).mapIdx (clearRow left[p] d c)).take d), ?_, ?_, ?_, ⟨1, by decide, fun j _ => by grind⟩, ?_, fun k x y ex ey => ?_, fun z' hz' => ?_, fun z hz => ?_⟩
      · refine List.mem_map.mpr ⟨left[p], ?_, rfl⟩
        refine List.mem_iff_getElem.mpr ⟨p - d, by rw [List.length_drop]; omega, ?_⟩
        rw [List.getElem_drop]
        congr 1
        omega
      · exact cast_ne h0
      · unfold abs_
        rw [List.take_add_one, List.map_append, List.getElem?_eq_getElem (by omega), gets d hdl, if_pos rfl]
        have : clearRow left[p] d c d left[p] = left[p] := by
          unfold clearRow
          rw [if_neg (by simp)]
        rw [this]
        rfl
      · simp only [abs_, List.length_map, List.length_take, ml]
      · simp only [abs_, List.getElem?_map] at ex ey
        by_cases hk : k < d
        · rw [List.getElem?_take_of_lt hk, List.getElem?_eq_getElem (by omega)] at ex ey
          rw [gets k (by omega), if_neg (by omega), if_neg (by omega)] at ey
          obtain rfl := Option.some.inj ex
          obtain rfl := Option.some.inj ey
          exact elim_clear (hnl k (by omega)) hc h0 (by omega)
        · rw [List.getElem?_eq_none (by rw [List.length_take]; omega)] at ex
          simp at ex
      · obtain ⟨r, hr, rfl⟩ := List.mem_map.mp hz'
        obtain ⟨k, hk, rfl⟩ := List.mem_iff_getElem.mp hr
        rw [List.length_drop, ml] at hk
        rw [List.getElem_drop, gets (d + 1 + k) (by omega), if_neg (by omega)]
        by_cases e : d + 1 + k = p
        · rw [if_pos e]
          refine ⟨ab left[d], List.mem_map.mpr ⟨left[d], ?_, rfl⟩, elim_clear (hnl d hdl) hc h0 (by omega)⟩
          exact List.mem_iff_getElem.mpr ⟨0, by rw [List.length_drop]; omega, by rw [List.getElem_drop]; rfl⟩
        · rw [if_neg e]
          refine ⟨ab left[d + 1 + k], List.mem_map.mpr ⟨left[d + 1 + k], ?_, rfl⟩, elim_clear (hnl _ (by omega)) hc h0 (by omega)⟩
          exact List.mem_iff_getElem.mpr ⟨k + 1, by rw [List.length_drop]; omega, by rw [List.getElem_drop]; congr 1; omega⟩
      · obtain ⟨r, hr, rfl⟩ := List.mem_map.mp hz
        obtain ⟨k, hk, rfl⟩ := List.mem_iff_getElem.mp hr
        rw [List.length_drop] at hk
        rw [List.getElem_drop]
        by_cases e : d + k = p
        · left
          intro j hj
          congr 2
        · right
          -- where it stands now
          have put : ∀ m (hm : m < left.length), d + 1 ≤ m → (if m = d then left[p] else if m = p then left[d] else left[m]) = left[d + k] → ∃ z' ∈ abs_ (((swapped left d p).mapIdx (clearRow left[p] d c)).drop (d + 1)), Elim n c (ab left[p]) (ab left[d + k]) z' := fun m hm hdm em => by
            refine ⟨ab (clearRow left[p] d c m left[d + k]), List.mem_map.mpr ⟨_, List.mem_iff_getElem.mpr ⟨m - (d + 1), by rw [List.length_drop, ml]; omega, ?_⟩, rfl⟩, elim_clear (hnl _ (by omega)) hc h0 (by omega)⟩
            rw [List.getElem_drop]
            have e1 : d + 1 + (m - (d + 1)) = m := by omega
            simp only [e1]
            rw [gets m hm, em]
          by_cases k0 : k = 0
          · subst k0
            exact put p hp (by omega) (by rw [if_neg (by omega), if_pos rfl]; rfl)
          · exact put (d + k) (by omega) (by omega) (by rw [if_neg (by omega), if_neg e])
    refine ⟨_, E.step S hc, fun r hr => ?_, by rw [ml]; omega, fun x => S.sat x⟩
    obtain ⟨k, hk, rfl⟩ := List.mem_iff_getElem.mp hr
    rw [ml] at hk
    rw [gets k hk]
    apply clear_len
    split
    · exact hnl p hp
    · split
      · exact hnl d hdl
      · exact hnl k hk
theorem red_all {n : Nat} {rows : List (List Int)} (hn : ∀ r ∈ rows, r.length = n + 1) : ∀ c, c ≤ n → ∃ cs, Ech n c (abs_ ((redTo rows c).1.take (redTo rows c).2)) (abs_ ((redTo rows c).1.drop (redTo rows c).2)) cs ∧ (∀ r ∈ (redTo rows c).1, r.length = n + 1) ∧ (redTo rows c).2 ≤ (redTo rows c).1.length ∧
      ∀ x, All n [] (abs_ rows) x ↔ All n (abs_ ((redTo rows c).1.take (redTo rows c).2)) (abs_ ((redTo rows c).1.drop (redTo rows c).2)) x
  | 0, _ => by
    have e : redTo rows 0 = (rows, 0) := rfl
    rw [e]
    refine ⟨[], ⟨by simp [abs_], by simp, ?_, ?_, fun z _ j hj => by omega⟩, hn, Nat.zero_le _, fun x => ?_⟩
    · intro k c r h; simp [abs_] at h
    · intro k l c r h; simp [abs_] at h
    · simp [abs_]
  | c + 1, h => by
    obtain ⟨cs, E, h1, h2, h3⟩ := red_all hn c (by omega)
    obtain ⟨cs', E', h1', h2', h3'⟩ := red_step h1 (by omega) h2 E
    rw [redTo_succ]
    exact ⟨cs', E', h1', h2', fun x => (h3 x).trans (h3' x)⟩
/-! ### what the program reads off -/
theorem used_nil {n : Nat} {r : List Int} (h : r.length = n + 1) : (used r).length = 0 ↔ ∀ j, j < n → ab r j = 0 := by
  unfold used
  rw [List.length_eq_zero_iff, List.filter_eq_nil_iff, h]
  constructor
  · intro q j hj
    have := q j (by simpa using hj)
    unfold ab
    have e : r.getD j 0 = 0 := by simpa using this
    rw [e]; rfl
  · intro q j hj
    have := q j (by simpa using hj)
    unfold ab at this
    have e : r.getD j 0 = 0 := by exact_mod_cast this
    simpa using e
theorem filter_single {p : Nat → Bool} : ∀ {n i : Nat}, i < n → p i = true → (∀ j, j < n → j ≠ i → p j = false) → (List.range n).filter p = [i]
  | 0, i, h, _, _ => by omega
  | n + 1, i, h, hi, ho => by
    rw [List.range_succ, List.filter_append]
    by_cases e : i = n
    · subst e
      rw [List.filter_eq_nil_iff.mpr fun j hj => by
        have : j < i := by simpa using hj
        rw [ho j (by omega) (by omega)]
        simp]
      simp [hi]
    · rw [filter_single (n := n) (i := i) (by omega) hi fun j hj hn => ho j (by omega) hn]
      simp [ho n (by omega) (by omega)]
theorem used_one {n i : Nat} {r : List Int} (h : r.length = n + 1) (hi : i < n) : used r = [i] ↔ ab r i ≠ 0 ∧ ∀ j, j < n → j ≠ i → ab r j = 0 := by
  unfold used
  rw [h]
  have ez : ∀ j, (ab r j = 0) ↔ r.getD j 0 = 0 := fun j => by
    unfold ab
    exact ⟨fun q => by exact_mod_cast q, fun q => by rw [q]; rfl⟩
  constructor
  · intro q
    have mem : ∀ j, (j < n ∧ r.getD j 0 ≠ 0) ↔ j = i := fun j => by
      have : j ∈ (List.range (n + 1 - 1)).filter (fun j => decide (r.getD j 0 ≠ 0)) ↔ j ∈ [i] := by rw [q]
      simpa using this
    refine ⟨fun z => ((mem i).mpr rfl).2 ((ez i).mp z), fun j hj hn => (ez j).mpr ?_⟩
    exact Classical.byContradiction fun z => hn ((mem j).mp ⟨hj, z⟩)
  · rintro ⟨h0, h1⟩
    refine filter_single (by omega) (by simpa using fun z => h0 ((ez i).mpr z)) fun j hj hn => ?_
    have := (ez j).mp (h1 j (by omega) hn)
    simp only [this]
    rfl
theorem last_ab {n : Nat} {r : List Int} (h : r.length = n + 1) : (lastOf r : Rat) = ab r n := by
  unfold lastOf ab
  rw [h]
  rfl
end Cw

/-! The specification's rows by steps; what it reads off; both are the same. -/
namespace Cw
open Mu07
def NmRow (n : Nat) (r : Row) : Prop := r.1.length = n ∧ (∀ q ∈ r.1, Nm q) ∧ Nm r.2
def abQ (n : Nat) (r : Row) : AR := fun j => if j < n then val (r.1.getD j (whole 0)) else val r.2
theorem nm_getD {n : Nat} {r : Row} (h : NmRow n r) (j : Nat) : Nm (r.1.getD j (whole 0)) := by
  rw [List.getD_eq_getElem?_getD]
  cases e : r.1[j]? with
  | none => exact whole_nm 0
  | some q => exact h.2.1 q (List.mem_of_getElem? e)
theorem abQ_lt {n j : Nat} {r : Row} (h : j < n) : abQ n r j = val (r.1.getD j (whole 0)) := if_pos h
theorem abQ_n {n : Nat} {r : Row} : abQ n r n = val r.2 := if_neg (Nat.lt_irrefl _)
theorem scaled_nm {n : Nat} {q : Q} {r : Row} (h : NmRow n r) : NmRow n (scaled q r) := by
  refine ⟨by simp [scaled, h.1], fun x hx => ?_, times_nm _ _⟩
  unfold scaled at hx
  obtain ⟨y, _, rfl⟩ := List.mem_map.mp hx
  exact times_nm _ _
theorem scaled_ab {n : Nat} {q : Q} {r : Row} (h : NmRow n r) (hq : Nm q) {j : Nat} (hj : j ≤ n) : abQ n (scaled q r) j = val q * abQ n r j := by
  by_cases e : j < n
  · rw [abQ_lt e, abQ_lt e]
    unfold scaled
    dsimp only
    rw [List.getD_eq_getElem?_getD, List.getD_eq_getElem?_getD, List.getElem?_map, List.getElem?_eq_getElem (by rw [h.1]; exact e)]
    simp only [Option.map_some, Option.getD_some]
    rw [times_val (h.2.1 _ (List.getElem_mem _)) hq]
    grind
  · obtain rfl : j = n := by omega
    rw [abQ_n, abQ_n]
    unfold scaled
    rw [times_val h.2.2 hq]
    grind
theorem minus_nm {n : Nat} {a b : Row} (ha : NmRow n a) (hb : NmRow n b) : NmRow n (minus a b) := by
  refine ⟨by simp [minus, ha.1, hb.1], fun x hx => ?_, less_nm _ _⟩
  unfold minus at hx
  obtain ⟨k, hk, rfl⟩ := List.mem_iff_getElem.mp hx
  rw [List.getElem_zipWith]
  exact less_nm _ _
theorem minus_ab {n : Nat} {a b : Row} (ha : NmRow n a) (hb : NmRow n b) {j : Nat} (hj : j ≤ n) : abQ n (minus a b) j = abQ n a j - abQ n b j := by
  by_cases e : j < n
  · rw [abQ_lt e, abQ_lt e, abQ_lt e]
    unfold minus
    dsimp only
    have h1 : j < a.1.length := by rw [ha.1]; exact e
    have h2 : j < b.1.length := by rw [hb.1]; exact e
    rw [getD_get (l := List.zipWith Q.less a.1 b.1) (by rw [List.length_zipWith]; omega), getD_get h1, getD_get h2, List.getElem_zipWith]
    exact less_val (ha.2.1 _ (List.getElem_mem _)) (hb.2.1 _ (List.getElem_mem _))
  · obtain rfl : j = n := by omega
    rw [abQ_n, abQ_n, abQ_n]
    exact less_val ha.2.2 hb.2.2
/-- the row's own column bears 1 -/
def Ones (n : Nat) (P : List Row) (cs : List Nat) : Prop := ∀ (k c : Nat) (r : Row), P[k]? = some r → cs[k]? = some c → abQ n r c = 1
def absQ (n : Nat) (l : List Row) : List AR := l.map (abQ n)
theorem clear_step {n c : Nat} {P Z : List Row} {cs : List Nat} (hP : ∀ r ∈ P, NmRow n r) (hZ : ∀ r ∈ Z, NmRow n r) (hc : c < n) (E : Ech n c (absQ n P) (absQ n Z) cs) (O : Ones n P cs) :
    ∃ cs', Ech n (c + 1) (absQ n (clear c P Z).1) (absQ n (clear c P Z).2) cs' ∧ Ones n (clear c P Z).1 cs' ∧ (∀ r ∈ (clear c P Z).1, NmRow n r) ∧ (∀ r ∈ (clear c P Z).2, NmRow n r) ∧
      ∀ x, All n (absQ n P) (absQ n Z) x ↔ All n (absQ n (clear c P Z).1) (absQ n (clear c P Z).2) x := by
  unfold clear
  cases hf : Z.findIdx? fun (r : Row) => !((r.1.getD c (whole 0)).isZero) with
  | none =>
    dsimp only
    refine ⟨cs, E.stay fun z hz => ?_, O, hP, hZ, fun x => Iff.rfl⟩
    obtain ⟨r, hr, rfl⟩ := List.mem_map.mp hz
    have := List.findIdx?_eq_none_iff.mp hf r hr
    rw [abQ_lt hc]
    refine (zero_iff (nm_getD (hZ r hr) c)).mp ?_
    simpa using this
  | some k =>
    dsimp only
    obtain ⟨hk, h0, _⟩ := List.findIdx?_eq_some_iff_getElem.mp hf
    have er : Z.getD k ([], whole 0) = Z[k] := getD_get hk
    rw [er]
    have hr : NmRow n Z[k] := hZ _ (List.getElem_mem hk)
    have hcl : c < Z[k].1.length := by rw [hr.1]; exact hc
    have e1 : Z[k].1.getD c (whole 1) = Z[k].1.getD c (whole 0) := by rw [getD_get hcl, getD_get hcl]
    rw [e1]
    have vr : val (Z[k].1.getD c (whole 0)) ≠ 0 := fun z => by
      have := (zero_iff (nm_getD hr c)).mpr z
      rw [this] at h0
      simp at h0
    have ar : abQ n Z[k] c = val (Z[k].1.getD c (whole 0)) := abQ_lt hc
    generalize hp : scaled ((whole 1).over (Z[k].1.getD c (whole 0))) Z[k] = p
    have hq : Nm ((whole 1).over (Z[k].1.getD c (whole 0))) := over_nm _ _
    have vq : val ((whole 1).over (Z[k].1.getD c (whole 0))) = 1 / abQ n Z[k] c := by
      rw [over_val (whole_nm 1) (nm_getD hr c), whole_val, ar]
      rfl
    have pn : NmRow n p := by rw [← hp]; exact scaled_nm hr
    have pv : ∀ j, j ≤ n → abQ n p j = (1 / abQ n Z[k] c) * abQ n Z[k] j := fun j hj => by
      rw [← hp, scaled_ab hr hq hj, vq]
    have r0 : abQ n Z[k] c ≠ 0 := by rw [ar]; exact vr
    have p1 : abQ n p c = 1 := by
      rw [pv c (by omega)]
      grind
    have fnm : ∀ x, NmRow n x → NmRow n (minus x (scaled (x.1.getD c (whole 0)) p)) := fun x hx => minus_nm hx (scaled_nm pn)
    have fv : ∀ x, NmRow n x → ∀ j, j ≤ n → abQ n (minus x (scaled (x.1.getD c (whole 0)) p)) j = abQ n x j - abQ n x c * abQ n p j := fun x hx j hj => by
      rw [minus_ab hx (scaled_nm pn) hj, scaled_ab pn (nm_getD hx c) hj, abQ_lt hc]
    have fe : ∀ x, NmRow n x → Elim n c (abQ n Z[k]) (abQ n x) (abQ n (minus x (scaled (x.1.getD c (whole 0)) p))) := fun x hx => by
      refine ⟨?_, 1, -(abQ n x c / abQ n Z[k] c), by decide, fun j hj => ?_⟩
      · rw [fv x hx c (by omega), p1]
        grind
      · rw [fv x hx j hj, pv j hj]
        grind
    have S : Step n c (absQ n P) (absQ n Z) (absQ n (P.map (fun x => minus x (scaled (x.1.getD c (whole 0)) p)) ++ [p])) (absQ n ((Z.eraseIdx k).map (fun x => minus x (scaled (x.1.getD c (whole 0)) p)))) := by
      refine ⟨abQ n Z[k], abQ n p, absQ n (P.map (fun x => minus x (scaled (x.1.getD c (whole 0)) p))), List.mem_map.mpr ⟨_, List.getElem_mem hk, rfl⟩, r0, ?_, ⟨1 / abQ n Z[k] c, by grind, pv⟩, ?_, fun i x y ex ey => ?_, fun z' hz' => ?_, fun z hz => ?_⟩
      · simp [absQ]
      · simp [absQ]
      · simp only [absQ, List.getElem?_map, Option.map_map] at ex ey
        cases q : P[i]? with
        | none => rw [q] at ex; simp at ex
        | some r =>
          rw [q] at ex ey
          simp only [Option.map_some, Option.some.injEq, Function.comp] at ex ey
          rw [← ex, ← ey]
          exact fe r (hP r (List.mem_of_getElem? q))
      · obtain ⟨r, hr', rfl⟩ := List.mem_map.mp hz'
        obtain ⟨y, hy, rfl⟩ := List.mem_map.mp hr'
        have my : y ∈ Z := List.mem_of_mem_eraseIdx hy
        exact ⟨abQ n y, List.mem_map.mpr ⟨y, my, rfl⟩, fe y (hZ y my)⟩
      · obtain ⟨y, hy, rfl⟩ := List.mem_map.mp hz
        obtain ⟨i, hi, rfl⟩ := List.mem_iff_getElem.mp hy
        by_cases e : i = k
        · left
          subst e
          intro j _
          rfl
        · right
          refine ⟨_, List.mem_map.mpr ⟨_, List.mem_map.mpr ⟨Z[i], ?_, rfl⟩, rfl⟩, fe _ (hZ _ (List.getElem_mem hi))⟩
          exact List.mem_eraseIdx_iff_getElem.mpr ⟨i, hi, e, rfl⟩
    refine ⟨_, E.step S hc, ?_, fun r hr' => ?_, fun r hr' => ?_, fun x => S.sat x⟩
    · intro i d r hir hid
      by_cases hi : i < P.length
      · rw [List.getElem?_append_left (by simpa using hi), List.getElem?_map, List.getElem?_eq_getElem hi] at hir
        simp only [Option.map_some, Option.some.injEq] at hir
        have hil : i < cs.length := by
          have := E.len
          simp [absQ] at this
          omega
        rw [List.getElem?_append_left hil] at hid
        have dlt := E.lt d (List.mem_of_getElem? hid)
        rw [← hir, fv _ (hP _ (List.getElem_mem hi)) d (by omega), O i d _ (List.getElem?_eq_getElem hi) hid, pv d (by omega)]
        have z0 := E.zero (abQ n Z[k]) (List.mem_map.mpr ⟨_, List.getElem_mem hk, rfl⟩) d dlt
        rw [z0]
        grind
      · have el := E.len
        simp [absQ] at el
        rw [List.getElem?_append_right (by simp; omega)] at hir
        rw [List.getElem?_append_right (by omega)] at hid
        simp at hir
        obtain ⟨hir1, rfl⟩ := List.getElem?_eq_some_iff.mp hir
        obtain ⟨hid1, hid2⟩ := List.getElem?_eq_some_iff.mp hid
        simp at hid2 ⊢
        rw [← hid2]
        exact p1
    · rcases List.mem_append.mp hr' with m | m
      · obtain ⟨y, hy, rfl⟩ := List.mem_map.mp m
        exact fnm y (hP y hy)
      · have : r = p := by simpa using m
        rw [this]
        exact pn
    · obtain ⟨y, hy, rfl⟩ := List.mem_map.mp hr'
      exact fnm y (hZ y (List.mem_of_mem_eraseIdx hy))
theorem clear_all {n : Nat} {Z : List Row} (hZ : ∀ r ∈ Z, NmRow n r) : ∀ c, c ≤ n → ∃ cs, let S := (List.range c).foldl (fun (x : List Row × List Row) (i : Nat) => clear i x.1 x.2) ([], Z)
    Ech n c (absQ n S.1) (absQ n S.2) cs ∧ Ones n S.1 cs ∧ (∀ r ∈ S.1, NmRow n r) ∧ (∀ r ∈ S.2, NmRow n r) ∧ ∀ x, All n [] (absQ n Z) x ↔ All n (absQ n S.1) (absQ n S.2) x
  | 0, _ => by
    refine ⟨[], ?_⟩
    show Ech n 0 (absQ n []) (absQ n Z) [] ∧ _
    refine ⟨⟨by simp [absQ], by simp, ?_, ?_, fun z _ j hj => by omega⟩, ?_, by simp, hZ, fun x => Iff.rfl⟩
    · intro k c r h; simp [absQ] at h
    · intro k l c r h; simp [absQ] at h
    · intro k c r h; simp at h
  | c + 1, h => by
    obtain ⟨cs, E, O, h1, h2, h3⟩ := clear_all hZ c (by omega)
    obtain ⟨cs', E', O', h1', h2', h3'⟩ := clear_step h1 h2 (by omega) E O
    refine ⟨cs', ?_⟩
    rw [List.range_succ, List.foldl_append]
    exact ⟨E', O', h1', h2', fun x => (h3 x).trans (h3' x)⟩
/-! ### the equations themselves -/
theorem at_len (n i : Nat) (q : Q) : (at_ n i q).length = n := by simp [at_]
theorem at_get {n i j : Nat} {q : Q} (h : j < n) : (at_ n i q).getD j (whole 0) = if j = i then q else whole 0 := by
  unfold at_
  rw [List.getD_eq_getElem?_getD, List.getElem?_map, List.getElem?_range h]
  rfl
theorem at_nm {n i : Nat} {q : Q} (h : Nm q) : ∀ x ∈ at_ n i q, Nm x := by
  intro x hx
  unfold at_ at hx
  obtain ⟨j, _, rfl⟩ := List.mem_map.mp hx
  split
  · exact h
  · exact whole_nm 0
theorem sum_len {a b : List Q} {n : Nat} (ha : a.length = n) (hb : b.length = n) : (sum a b).length = n := by simp [sum, ha, hb]
theorem sum_nm {a b : List Q} : ∀ x ∈ sum a b, Nm x := by
  intro x hx
  unfold sum at hx
  obtain ⟨k, hk, rfl⟩ := List.mem_iff_getElem.mp hx
  rw [List.getElem_zipWith]
  exact plus_nm _ _
theorem sum_val {a b : List Q} {n j : Nat} (ha : a.length = n) (hb : b.length = n) (na : ∀ x ∈ a, Nm x) (nb : ∀ x ∈ b, Nm x) (hj : j < n) : val ((sum a b).getD j (whole 0)) = val (a.getD j (whole 0)) + val (b.getD j (whole 0)) := by
  unfold sum
  rw [getD_get (l := List.zipWith Q.plus a b) (by rw [List.length_zipWith]; omega), getD_get (by omega), getD_get (by omega), List.getElem_zipWith]
  exact plus_val (na _ (List.getElem_mem _)) (nb _ (List.getElem_mem _))
/-- the program's row of the arbor that drives -/
def driveZ (n i s : Nat) : List Int := ((List.replicate (n + 1) (0 : Int)).set i (s : Int)).set n 1
def addAt (r : List Int) (i : Nat) (z : Int) : List Int := r.set i (r.getD i 0 + z)
/-- .. of a mesh: the arbors of both wheels, their teeth -/
def meshZ (n a b v w : Nat) (inside : Bool) (on : Option Nat) : List Int :=
  let w' : Int := if inside = true then -(w : Int) else w
  let r := addAt (addAt (List.replicate (n + 1) (0 : Int)) a v) b w'
  match on with
  | some c => r.set c (r.getD c 0 - v - w')
  | none => r
theorem addAt_len (r : List Int) (i : Nat) (z : Int) : (addAt r i z).length = r.length := by simp [addAt]
theorem addAt_get {r : List Int} {i j : Nat} {z : Int} (hi : i < r.length) : (addAt r i z).getD j 0 = r.getD j 0 + if j = i then z else 0 := by
  unfold addAt
  rw [List.getD_eq_getElem?_getD, List.getElem?_set]
  by_cases e : i = j
  · subst e
    rw [if_pos rfl, if_pos hi, if_pos rfl]
    rfl
  · rw [if_neg e, if_neg (fun q => e q.symm), ← List.getD_eq_getElem?_getD]
    omega
theorem rep_get (n j : Nat) : (List.replicate n (0 : Int)).getD j 0 = 0 := by
  rw [List.getD_eq_getElem?_getD, List.getElem?_replicate]
  split <;> rfl
theorem driveZ_len (n i s : Nat) : (driveZ n i s).length = n + 1 := by simp [driveZ]
theorem driveZ_ab {n i s : Nat} (hi : i < n) {j : Nat} (hj : j ≤ n) : ab (driveZ n i s) j = if j = i then (s : Rat) else if j = n then 1 else 0 := by
  unfold ab driveZ
  rw [List.getD_eq_getElem?_getD, List.getElem?_set, List.getElem?_set]
  simp only [List.length_set, List.length_replicate]
  by_cases e : n = j
  · subst e
    rw [if_pos rfl, if_pos (by omega), if_neg (by omega), if_pos rfl]
    rfl
  · rw [if_neg e]
    by_cases e2 : i = j
    · subst e2
      rw [if_pos rfl, if_pos (by omega), if_pos rfl]
      rfl
    · have e3 : ¬ j = i := fun z => e2 z.symm
      have e4 : ¬ j = n := fun z => e z.symm
      rw [if_neg e2, if_neg e3, if_neg e4, ← List.getD_eq_getElem?_getD, rep_get]
      rfl
theorem meshZ_len (n a b v w : Nat) (inside : Bool) (on : Option Nat) : (meshZ n a b v w inside on).length = n + 1 := by
  unfold meshZ
  cases on <;> simp [addAt_len]
theorem meshZ_get {n a b v w : Nat} {inside : Bool} {on : Option Nat} (ha : a < n) (hb : b < n) (ho : ∀ c, on = some c → c < n) (j : Nat) :
    (meshZ n a b v w inside on).getD j 0 = (if j = a then (v : Int) else 0) + (if j = b then (if inside = true then -(w : Int) else w) else 0) - (if on = some j then (v : Int) + (if inside = true then -(w : Int) else w) else 0) := by
  unfold meshZ
  have l1 : (addAt (List.replicate (n + 1) (0 : Int)) a (v : Int)).length = n + 1 := by simp [addAt_len]
  cases on with
  | none =>
    dsimp only
    rw [addAt_get (by rw [l1]; omega), addAt_get (by simp; omega), rep_get]
    simp
  | some c =>
    dsimp only
    have hc := ho c rfl
    have l2 : (addAt (addAt (List.replicate (n + 1) (0 : Int)) a (v : Int)) b (if inside = true then -(w : Int) else w)).length = n + 1 := by simp [addAt_len]
    have g : ∀ k, (addAt (addAt (List.replicate (n + 1) (0 : Int)) a (v : Int)) b (if inside = true then -(w : Int) else w)).getD k 0 = (if k = a then (v : Int) else 0) + (if k = b then (if inside = true then -(w : Int) else w) else 0) := fun k => by
      rw [addAt_get (by rw [l1]; omega), addAt_get (by simp; omega), rep_get]
      simp
    generalize addAt (addAt (List.replicate (n + 1) (0 : Int)) a (v : Int)) b (if inside = true then -(w : Int) else w) = r at l2 g ⊢
    rw [List.getD_eq_getElem?_getD, List.getElem?_set]
    by_cases e : c = j
    · subst e
      rw [if_pos rfl, if_pos (by omega), if_pos rfl]
      simp only [Option.getD_some]
      rw [g]
      omega
    · have e5 : ¬ some c = some j := fun z => e (Option.some.inj z)
      rw [if_neg e, if_neg e5, ← List.getD_eq_getElem?_getD, g]
      omega
end Cw

/-! Works that stand as they're read, and their rates. -/
namespace Cw
open Mu07
def GoesOk (W : Works) : Goes → Prop
  | .arbor i => i < W.arbors.length
  | .star i => i < W.stars.length
structure Wf (W : Works) : Prop where
  na : W.arbors.length ≤ 12
  nw : W.wheels.length ≤ 24
  nm : W.meshes.length ≤ 24
  ns : W.stars.length ≤ 6
  nh : W.hands.length ≤ 12
  nk : W.strikers.length ≤ 6
  nc : W.calendars.length ≤ 2
  drive : ∀ i s, W.drive = some (i, s) → i < W.arbors.length ∧ 1 ≤ s ∧ s ≤ 999999999
  wheel : ∀ x ∈ W.wheels, x.arbor < W.arbors.length ∧ 6 ≤ x.teeth ∧ x.teeth ≤ 400
  mesh : ∀ m ∈ W.meshes, m.v < W.wheels.length ∧ m.w < W.wheels.length ∧ ∀ c, m.on = some c → c < W.arbors.length
  star : ∀ (k : Nat) (x : Star), W.stars[k]? = some x → (match x.by_ with | .arbor i => i < W.arbors.length | .star i => i < k) ∧ 2 ≤ x.steps ∧ x.steps ≤ 400
  hand : ∀ x ∈ W.hands, GoesOk W x.on ∧ 1 ≤ x.marks ∧ x.marks ≤ 1000 ∧ x.first < x.marks
  striker : ∀ x ∈ W.strikers, GoesOk W x.by_ ∧ (∀ h, x.hand = some h → h < W.hands.length) ∧ (x.hand = none → 1 ≤ x.numbers.length) ∧ x.numbers.length ≤ 24 ∧ (∀ z ∈ x.numbers, z ≤ 99)
  calendar : ∀ x ∈ W.calendars, GoesOk W x.by_ ∧ 1 ≤ x.first.y ∧ x.first.y ≤ 9999 ∧ 1 ≤ x.first.m ∧ x.first.m ≤ 12 ∧ 1 ≤ x.first.d ∧ x.first.d ≤ daysOf (trueLeap x.first.y) x.first.m
def wheelAt (W : Works) (i : Nat) : Wheel := W.wheels.getD i ⟨[], 0, 0⟩
def meshRowZ (W : Works) (m : Mesh) : List Int := meshZ W.arbors.length (wheelAt W m.v).arbor (wheelAt W m.w).arbor (wheelAt W m.v).teeth (wheelAt W m.w).teeth m.inside m.on
def driveRowZ (W : Works) : List Int := match W.drive with
  | some (i, s) => driveZ W.arbors.length i s
  | none => []
def rowsZ (W : Works) : List (List Int) := driveRowZ W :: W.meshes.map (meshRowZ W)
theorem sat_congr {n : Nat} {r r' x : AR} (h : ∀ j, j ≤ n → r j = r' j) : Sat n r x ↔ Sat n r' x := by
  unfold Sat
  rw [h n (Nat.le_refl _), sum_congr (g := fun j => r' j * x j) fun j hj => by rw [h j (by omega)]]
section
variable {W : Works} (F : Wf W)
include F
theorem Wf.wheelOk {i : Nat} (h : i < W.wheels.length) : (wheelAt W i).arbor < W.arbors.length ∧ 6 ≤ (wheelAt W i).teeth ∧ (wheelAt W i).teeth ≤ 400 := by
  unfold wheelAt
  rw [getD_get h]
  exact F.wheel _ (List.getElem_mem h)
theorem Wf.meshRow_nm (m : Mesh) : NmRow W.arbors.length (meshRow W m) := by
  unfold meshRow
  refine ⟨?_, sum_nm, whole_nm 0⟩
  refine sum_len (sum_len (at_len _ _ _) (at_len _ _ _)) ?_
  cases m.on <;> exact at_len _ _ _
theorem Wf.driveRow_nm : NmRow W.arbors.length (driveRow W) := by
  unfold driveRow
  cases W.drive with
  | none => exact ⟨at_len _ _ _, at_nm (whole_nm _), whole_nm _⟩
  | some p => exact ⟨at_len _ _ _, at_nm (whole_nm _), whole_nm _⟩
theorem Wf.mesh_same {m : Mesh} (hm : m ∈ W.meshes) {j : Nat} (hj : j ≤ W.arbors.length) : abQ W.arbors.length (meshRow W m) j = ab (meshRowZ W m) j := by
  obtain ⟨h1, h2, h3⟩ := F.mesh m hm
  have a1 := (F.wheelOk h1).1
  have a2 := (F.wheelOk h2).1
  show _ = (((meshRowZ W m).getD j 0 : Int) : Rat)
  unfold meshRowZ
  rw [meshZ_get a1 a2 h3 j]
  by_cases e : j < W.arbors.length
  · rw [abQ_lt e]
    unfold meshRow
    dsimp only
    rw [show W.wheels.getD m.v ⟨[], 0, 0⟩ = wheelAt W m.v from rfl, show W.wheels.getD m.w ⟨[], 0, 0⟩ = wheelAt W m.w from rfl]
    generalize wheelAt W m.v = v
    generalize wheelAt W m.w = w
    have nm1 : ∀ x ∈ at_ W.arbors.length v.arbor (whole (v.teeth : Int)), Nm x := at_nm (whole_nm _)
    have nm2 : ∀ x ∈ at_ W.arbors.length w.arbor (whole ((if m.inside = true then -1 else 1) * (w.teeth : Int))), Nm x := at_nm (whole_nm _)
    have vi : ∀ (p : Prop) [Decidable p] (a : Int), val (if p then whole a else whole 0) = (((if p then a else 0) : Int) : Rat) := fun p _ a => by
      split <;> exact whole_val _
    cases hon : m.on with
    | none =>
      dsimp only
      rw [sum_val (sum_len (at_len _ _ _) (at_len _ _ _)) (at_len _ _ _) sum_nm (at_nm (whole_nm _)) e, sum_val (at_len _ _ _) (at_len _ _ _) nm1 nm2 e, at_get e, at_get e, at_get e, vi, vi, vi, ← Rat.intCast_add, ← Rat.intCast_add]
      refine congrArg _ ?_
      rw [if_neg (show ¬ (none : Option Nat) = some j from fun z => nomatch z)]
      cases m.inside <;> simp only [if_true, if_false, Bool.false_eq_true] <;> split <;> split <;> split <;> omega
    | some c =>
      dsimp only
      rw [sum_val (sum_len (at_len _ _ _) (at_len _ _ _)) (at_len _ _ _) sum_nm (at_nm (whole_nm _)) e, sum_val (at_len _ _ _) (at_len _ _ _) nm1 nm2 e, at_get e, at_get e, at_get e, vi, vi, vi, ← Rat.intCast_add, ← Rat.intCast_add]
      refine congrArg _ ?_
      have ec : (some c = some j) ↔ j = c := ⟨fun z => (Option.some.inj z).symm, fun z => by rw [z]⟩
      simp only [ec]
      cases m.inside <;> simp only [if_true, if_false, Bool.false_eq_true] <;> split <;> split <;> split <;> omega
  · obtain rfl : j = W.arbors.length := by omega
    rw [abQ_n]
    have e1 : (meshRow W m).2 = whole 0 := rfl
    rw [e1, whole_val, if_neg (by omega), if_neg (by omega), if_neg (fun z => by have := h3 _ z; omega)]
    rfl
theorem Wf.drive_same {i s : Nat} (hd : W.drive = some (i, s)) {j : Nat} (hj : j ≤ W.arbors.length) : abQ W.arbors.length (driveRow W) j = ab (driveRowZ W) j := by
  obtain ⟨h1, _⟩ := F.drive i s hd
  unfold driveRow driveRowZ
  rw [hd]
  dsimp only
  rw [driveZ_ab h1 hj]
  by_cases e : j < W.arbors.length
  · rw [abQ_lt e]
    dsimp only
    rw [at_get e]
    by_cases q : j = i
    · rw [if_pos q, if_pos q, whole_val]
      rfl
    · rw [if_neg q, if_neg q, if_neg (by omega), whole_val]
      rfl
  · obtain rfl : j = W.arbors.length := by omega
    rw [abQ_n, if_neg (by omega), if_pos rfl, whole_val]
    rfl
theorem Wf.rows_nm : ∀ r ∈ rows W, NmRow W.arbors.length r := by
  intro r hr
  unfold rows at hr
  rcases List.mem_cons.mp hr with rfl | m
  · exact F.driveRow_nm
  · obtain ⟨q, _, rfl⟩ := List.mem_map.mp m
    exact F.meshRow_nm q
theorem Wf.rowsZ_len {i s : Nat} (hd : W.drive = some (i, s)) : ∀ r ∈ rowsZ W, r.length = W.arbors.length + 1 := by
  intro r hr
  unfold rowsZ at hr
  rcases List.mem_cons.mp hr with rfl | m
  · unfold driveRowZ
    rw [hd]
    exact driveZ_len _ _ _
  · obtain ⟨q, _, rfl⟩ := List.mem_map.mp m
    exact meshZ_len _ _ _ _ _ _ _
theorem Wf.same_sol {i s : Nat} (hd : W.drive = some (i, s)) (x : AR) : All W.arbors.length [] (absQ W.arbors.length (rows W)) x ↔ All W.arbors.length [] (abs_ (rowsZ W)) x := by
  have key : ∀ m ∈ W.meshes, Sat W.arbors.length (abQ W.arbors.length (meshRow W m)) x ↔ Sat W.arbors.length (ab (meshRowZ W m)) x := fun m hm => sat_congr fun j hj => F.mesh_same hm hj
  have kd : Sat W.arbors.length (abQ W.arbors.length (driveRow W)) x ↔ Sat W.arbors.length (ab (driveRowZ W)) x := sat_congr fun j hj => F.drive_same hd hj
  unfold All absQ abs_ rows rowsZ
  constructor
  · intro h r hr
    rcases hr with hr | hr
    · simp at hr
    · rcases List.mem_cons.mp hr with rfl | m
      · exact kd.mp (h _ (.inr (List.mem_cons_self ..)))
      · obtain ⟨y, hy, rfl⟩ := List.mem_map.mp m
        obtain ⟨q, hq, rfl⟩ := List.mem_map.mp hy
        exact (key q hq).mp (h _ (.inr (List.mem_cons_of_mem _ (List.mem_map.mpr ⟨_, List.mem_map.mpr ⟨q, hq, rfl⟩, rfl⟩))))
  · intro h r hr
    rcases hr with hr | hr
    · simp at hr
    · rcases List.mem_cons.mp hr with rfl | m
      · exact kd.mpr (h _ (.inr (List.mem_cons_self ..)))
      · obtain ⟨y, hy, rfl⟩ := List.mem_map.mp m
        obtain ⟨q, hq, rfl⟩ := List.mem_map.mp hy
        exact (key q hq).mpr (h _ (.inr (List.mem_cons_of_mem _ (List.mem_map.mpr ⟨_, List.mem_map.mpr ⟨q, hq, rfl⟩, rfl⟩))))
end
/-! ### both tell the same -/
section
variable {n : Nat} {RS : List Row × List Row} {RZ : List (List Int)} {d : Nat} {cs cz : List Nat} (E1 : Ech n n (absQ n RS.1) (absQ n RS.2) cs) (O1 : Ones n RS.1 cs) (N1 : ∀ r ∈ RS.1, NmRow n r) (N2 : ∀ r ∈ RS.2, NmRow n r)
  (E2 : Ech n n (abs_ (RZ.take d)) (abs_ (RZ.drop d)) cz) (L2 : ∀ r ∈ RZ, r.length = n + 1) (S : ∀ x, All n (absQ n RS.1) (absQ n RS.2) x ↔ All n (abs_ (RZ.take d)) (abs_ (RZ.drop d)) x)
include E1 N2 E2 L2 S in
theorem locked_same : areLocked RZ = RS.2.any fun (r : Row) => !(r.2.isZero) := by
  have s1 := E1.sol
  have s2 := E2.sol
  have e : (∀ z ∈ absQ n RS.2, z n = 0) ↔ ∀ z ∈ abs_ (RZ.drop d), z n = 0 := by
    rw [← s1, ← s2]
    exact ⟨fun ⟨x, h⟩ => ⟨x, (S x).mp h⟩, fun ⟨x, h⟩ => ⟨x, (S x).mpr h⟩⟩
  have f1 : (RS.2.any fun (r : Row) => !(r.2.isZero)) = false ↔ ∀ z ∈ absQ n RS.2, z n = 0 := by
    rw [List.any_eq_false]
    constructor
    · intro h z hz
      obtain ⟨r, hr, rfl⟩ := List.mem_map.mp hz
      rw [abQ_n]
      refine (zero_iff (N2 r hr).2.2).mp ?_
      have := h r hr
      simpa using this
    · intro h r hr
      have := h _ (List.mem_map.mpr ⟨r, hr, rfl⟩)
      rw [abQ_n] at this
      rw [(zero_iff (N2 r hr).2.2).mpr this]
      simp
  have f2 : areLocked RZ = false ↔ ∀ z ∈ abs_ (RZ.drop d), z n = 0 := by
    unfold areLocked
    rw [List.any_eq_false]
    constructor
    · intro h z hz
      obtain ⟨r, hr, rfl⟩ := List.mem_map.mp hz
      have hm : r ∈ RZ := List.mem_of_mem_drop hr
      have h0 : (used r).length = 0 := (used_nil (L2 r hm)).mpr fun j hj => E2.zero _ hz j hj
      have := h r hm
      rw [h0] at this
      have e0 : lastOf r = 0 := by simpa using this
      rw [← last_ab (L2 r hm), e0]
      rfl
    · intro h r hr
      have hm : r ∈ RZ.take d ∨ r ∈ RZ.drop d := by
        have : r ∈ RZ.take d ++ RZ.drop d := by rw [List.take_append_drop]; exact hr
        exact List.mem_append.mp this
      rcases hm with m | m
      · obtain ⟨k, hk, ek⟩ := List.mem_iff_getElem.mp m
        have hl := E2.len
        have hk2 : k < cz.length := by rw [← hl]; simpa [abs_] using hk
        have nz := E2.nz k cz[k] (ab r) (by rw [← ek]; simp only [abs_, List.getElem?_map]; rw [List.getElem?_eq_getElem hk]; rfl) (List.getElem?_eq_getElem hk2)
        have lt := E2.lt cz[k] (List.getElem_mem hk2)
        have : (used r).length ≠ 0 := fun z => nz ((used_nil (L2 r hr)).mp z _ lt)
        simp [this]
      · have := h _ (List.mem_map.mpr ⟨r, m, rfl⟩)
        rw [← last_ab (L2 r hr)] at this
        have e0 : lastOf r = 0 := by exact_mod_cast this
        simp [e0]
  cases h1 : areLocked RZ with
  | false =>
    exact (f1.mpr (e.mpr (f2.mp h1))).symm
  | true =>
    cases h2 : RS.2.any fun (r : Row) => !(r.2.isZero) with
    | true => rfl
    | false =>
      have := f2.mpr (e.mp (f1.mp h2))
      rw [h1] at this
      cases this
theorem q_beq (a b : Q) : (a == b) = (a.n == b.n && a.d == b.d) := by
  cases a
  cases b
  rfl
instance q_lawful : LawfulBEq Q where
  rfl := by
    intro a
    rw [q_beq]
    simp
  eq_of_beq := by
    intro a b h
    rw [q_beq] at h
    cases a
    cases b
    simpa using h
/-- a row that is one arbor's alone -/
theorem row_one {r : Row} {i : Nat} (hn : NmRow n r) (hi : i < n) : (r.1 == at_ n i (whole 1)) = true ↔ abQ n r i = 1 ∧ ∀ j, j < n → j ≠ i → abQ n r j = 0 := by
  rw [beq_iff_eq]
  constructor
  · intro e
    refine ⟨?_, fun j hj hne => ?_⟩
    · rw [abQ_lt hi, e, at_get hi, if_pos rfl, whole_val]
      rfl
    · rw [abQ_lt hj, e, at_get hj, if_neg hne, whole_val]
      rfl
  · rintro ⟨h1, h2⟩
    refine List.ext_getElem (by rw [hn.1, at_len]) fun j hj hj2 => ?_
    have jn : j < n := by rw [← hn.1]; exact hj
    have e1 : r.1[j] = r.1.getD j (whole 0) := (getD_get hj).symm
    have e2 : (at_ n i (whole 1))[j] = (at_ n i (whole 1)).getD j (whole 0) := (getD_get hj2).symm
    rw [e1, e2]
    refine (nm_getD hn j).ext ?_ ?_
    · rw [at_get jn]
      split <;> exact whole_nm _
    · rw [at_get jn, ← abQ_lt jn]
      by_cases q : j = i
      · rw [q, if_pos rfl, whole_val, h1]
        rfl
      · rw [if_neg q, whole_val, h2 j jn q]
        rfl
include E1 O1 N1 N2 E2 L2 S in
theorem rate_same (hl : areLocked RZ = false) {i : Nat} (hi : i < n) : rateIn RZ i = (RS.1.find? fun (r : Row) => r.1 == at_ n i (whole 1)).map fun (r : Row) => r.2 := by
  have hs := locked_same E1 N2 E2 L2 S
  rw [hl] at hs
  have z1 : ∀ z ∈ absQ n RS.2, z n = 0 := fun z hz => by
    obtain ⟨r, hr, rfl⟩ := List.mem_map.mp hz
    rw [abQ_n]
    refine (zero_iff (N2 r hr).2.2).mp ?_
    have := List.any_eq_false.mp hs.symm r hr
    simpa using this
  obtain ⟨x0, hx0⟩ := E1.sol.mpr z1
  have z2 : ∀ z ∈ abs_ (RZ.drop d), z n = 0 := E2.sol.mp ⟨x0, (S x0).mp hx0⟩
  -- the program's row
  have zr : ∀ r ∈ RZ, used r = [i] → ∀ x, All n (abs_ (RZ.take d)) (abs_ (RZ.drop d)) x → x i = ab r n / ab r i := fun r hr hu x hx => by
    obtain ⟨h0, h1⟩ := (used_one (L2 r hr) hi).mp hu
    refine one_col hi h0 h1 (hx _ ?_)
    have : r ∈ RZ.take d ++ RZ.drop d := by rw [List.take_append_drop]; exact hr
    rcases List.mem_append.mp this with m | m
    · exact .inl (List.mem_map.mpr ⟨r, m, rfl⟩)
    · exact .inr (List.mem_map.mpr ⟨r, m, rfl⟩)
  unfold rateIn
  cases h2 : RS.1.find? fun (r : Row) => r.1 == at_ n i (whole 1) with
  | none =>
    cases h1 : RZ.find? fun r => used r == [i] with
    | none => rfl
    | some r =>
      exfalso
      have hr := List.mem_of_find?_eq_some h1
      have hu : used r = [i] := by simpa using List.find?_some h1
      obtain ⟨q, hq, q0, q1⟩ := E1.det z1 hi (q := ab r n / ab r i) fun x hx => zr r hr hu x ((S x).mp hx)
      obtain ⟨y, hy, rfl⟩ := List.mem_map.mp hq
      have one : abQ n y i = 1 := by
        obtain ⟨k, hk, ek⟩ := List.mem_iff_getElem.mp hy
        have hlen := E1.len
        have hk2 : k < cs.length := by rw [← hlen]; simpa [absQ] using hk
        have o := O1 k cs[k] y (by rw [← ek]; exact List.getElem?_eq_getElem hk) (List.getElem?_eq_getElem hk2)
        by_cases e : cs[k] = i
        · rw [← e]; exact o
        · have := q1 cs[k] (E1.lt _ (List.getElem_mem hk2)) e
          rw [o] at this
          exact absurd this (by decide)
      have := List.find?_eq_none.mp h2 y hy
      exact this ((row_one (N1 y hy) hi).mpr ⟨one, q1⟩)
  | some y =>
    have hy := List.mem_of_find?_eq_some h2
    have hu := List.find?_some h2
    obtain ⟨one, oth⟩ := (row_one (N1 y hy) hi).mp hu
    have sy : ∀ x, All n (absQ n RS.1) (absQ n RS.2) x → x i = val y.2 := fun x hx => by
      have := one_col hi (by rw [one]; decide) oth (hx _ (.inl (List.mem_map.mpr ⟨y, hy, rfl⟩)))
      rw [this, one, abQ_n]
      grind
    cases h1 : RZ.find? fun r => used r == [i] with
    | none =>
      exfalso
      obtain ⟨q, hq, q0, q1⟩ := E2.det z2 hi (q := val y.2) fun x hx => sy x ((S x).mpr hx)
      obtain ⟨r, hr, rfl⟩ := List.mem_map.mp hq
      have hm : r ∈ RZ := List.mem_of_mem_take hr
      have := List.find?_eq_none.mp h1 r hm
      exact this (by rw [(used_one (L2 r hm) hi).mpr ⟨q0, q1⟩]; simp)
    | some r =>
      have hr := List.mem_of_find?_eq_some h1
      have hur : used r = [i] := by simpa using List.find?_some h1
      simp only [Option.map_some, Option.some.injEq]
      refine (frac_nm _ _).ext (N1 y hy).2.2 ?_
      rw [frac_val, ← sy x0 hx0, zr r hr hur x0 ((S x0).mp hx0), last_ab (L2 r hr)]
      rfl
end
theorem Wf.main {W : Works} (F : Wf W) {i s : Nat} (hd : W.drive = some (i, s)) :
    areLocked (reduced (rowsZ W) W.arbors.length) = locked W ∧ (locked W = false → ∀ k, k < W.arbors.length → rateIn (reduced (rowsZ W) W.arbors.length) k = rate? W k) := by
  obtain ⟨cs, E1, O1, N1, N2, S1⟩ := clear_all F.rows_nm W.arbors.length (Nat.le_refl _)
  obtain ⟨cz, E2, L2, _, S2⟩ := red_all (F.rowsZ_len hd) W.arbors.length (Nat.le_refl _)
  have S : ∀ x, All W.arbors.length (absQ W.arbors.length (solved W).1) (absQ W.arbors.length (solved W).2) x ↔ All W.arbors.length (abs_ ((redTo (rowsZ W) W.arbors.length).1.take (redTo (rowsZ W) W.arbors.length).2)) (abs_ ((redTo (rowsZ W) W.arbors.length).1.drop (redTo (rowsZ W) W.arbors.length).2)) x := fun x =>
    (S1 x).symm.trans ((F.same_sol hd x).trans (S2 x))
  have a := locked_same (RS := solved W) E1 N2 E2 L2 S
  refine ⟨a, fun hl k hk => ?_⟩
  exact rate_same (RS := solved W) E1 O1 N1 N2 E2 L2 S (a.trans hl) hk
end Cw

/-! The rows' numbers stay small: a row that is divided by all that divides it is shorter than any other whole row on its line, and Siegel's lemma has a short one. -/
namespace Cw
/-! ### Siegel's lemma, by pigeonholes -/
theorem pigeon {α : Type} (f : α → Nat) (S : Nat) : ∀ (R : Nat) (L : List α), (∀ x ∈ L, f x < R) → R * S < L.length → ∃ v, S < (L.filter fun x => f x == v).length
  | 0, L, hf, h => by
    cases L with
    | nil => simp at h
    | cons x r => exact absurd (hf x (List.mem_cons_self ..)) (Nat.not_lt_zero _)
  | R + 1, L, hf, h => by
    by_cases q : S < (L.filter fun x => f x == R).length
    · exact ⟨R, q⟩
    · have part : (L.filter fun x => f x == R).length + (L.filter fun x => !(f x == R)).length = L.length := by
        have := List.length_eq_countP_add_countP (l := L) (fun x => f x == R)
        rw [List.countP_eq_length_filter, List.countP_eq_length_filter] at this
        simp only [Bool.not_eq_true] at this
        rw [this]
        congr 2
        apply List.filter_congr
        intro x _
        cases f x == R <;> rfl
      have e : (R + 1) * S = R * S + S := Nat.succ_mul R S
      obtain ⟨v, hv⟩ := pigeon f S R (L.filter fun x => !(f x == R)) (fun x hx => by
        obtain ⟨m, ne⟩ := List.mem_filter.mp hx
        have := hf x m
        have : f x ≠ R := by simpa using ne
        omega) (by omega)
      refine ⟨v, Nat.lt_of_lt_of_le hv ?_⟩
      exact (List.Sublist.filter _ List.filter_sublist).length_le
theorem agree {α : Type} (R : Nat) : ∀ (fs : List (α → Nat)) (L : List α), L.Nodup → (∀ f ∈ fs, ∀ x ∈ L, f x < R) → R ^ fs.length < L.length → ∃ x ∈ L, ∃ y ∈ L, x ≠ y ∧ ∀ f ∈ fs, f x = f y
  | [], L, hn, _, h => by
    match L, hn, h with
    | x :: y :: r, hn, _ =>
      refine ⟨x, by simp, y, by simp, ?_, by simp⟩
      intro e
      subst e
      simp at hn
    | [x], _, h => simp at h
    | [], _, h => simp at h
  | f :: fs, L, hn, hf, h => by
    have e : R ^ (f :: fs).length = R * R ^ fs.length := by
      show R ^ (fs.length + 1) = _
      rw [Nat.pow_succ, Nat.mul_comm]
    rw [e] at h
    obtain ⟨v, hv⟩ := pigeon f (R ^ fs.length) R L (fun x hx => hf f (List.mem_cons_self ..) x hx) h
    obtain ⟨x, hx, y, hy, ne, hfs⟩ := agree R fs (L.filter fun x => f x == v) (hn.filter _) (fun g hg x hx => hf g (List.mem_cons_of_mem _ hg) x (List.mem_filter.mp hx).1) hv
    obtain ⟨mx, vx⟩ := List.mem_filter.mp hx
    obtain ⟨my, vy⟩ := List.mem_filter.mp hy
    refine ⟨x, mx, y, my, ne, fun g hg => ?_⟩
    rcases List.mem_cons.mp hg with rfl | m
    · have a : g x = v := by simpa using vx
      have b : g y = v := by simpa using vy
      rw [a, b]
    · exact hfs g m
def dig (B x i : Nat) : Nat := x / B ^ i % B
theorem dig_diff {B : Nat} (hB : 0 < B) : ∀ (u x y : Nat), x < B ^ u → y < B ^ u → x ≠ y → ∃ i, i < u ∧ dig B x i ≠ dig B y i
  | 0, x, y, hx, hy, ne => by
    simp at hx hy
    omega
  | u + 1, x, y, hx, hy, ne => by
    by_cases h : x % B = y % B
    · have q : x / B ≠ y / B := fun z => ne (by rw [← Nat.div_add_mod x B, ← Nat.div_add_mod y B, z, h])
      have bd : ∀ z, z < B ^ (u + 1) → z / B < B ^ u := fun z hz => Nat.div_lt_of_lt_mul (by rw [Nat.mul_comm, ← Nat.pow_succ]; exact hz)
      obtain ⟨i, hi, hd⟩ := dig_diff hB u (x / B) (y / B) (bd x hx) (bd y hy) q
      refine ⟨i + 1, by omega, ?_⟩
      unfold dig at hd ⊢
      rw [Nat.pow_succ, Nat.mul_comm, ← Nat.div_div_eq_div_mul, ← Nat.div_div_eq_div_mul]
      exact hd
    · refine ⟨0, by omega, ?_⟩
      unfold dig
      simpa using h
theorem dig_lt {B : Nat} (hB : 0 < B) (x i : Nat) : dig B x i < B := Nat.mod_lt _ hB
def sumZ : Nat → (Nat → Int) → Int
  | 0, _ => 0
  | n + 1, f => sumZ n f + f n
theorem sumZ_sub (f g : Nat → Int) : ∀ n, sumZ n (fun j => f j - g j) = sumZ n f - sumZ n g
  | 0 => rfl
  | n + 1 => by
    show sumZ n (fun j => f j - g j) + (f n - g n) = (sumZ n f + f n) - (sumZ n g + g n)
    rw [sumZ_sub f g n]
    omega
theorem sumZ_bd {f : Nat → Int} {b : Nat} : ∀ n, (∀ j, j < n → (f j).natAbs ≤ b) → (sumZ n f).natAbs ≤ n * b
  | 0, _ => by simp [sumZ]
  | n + 1, h => by
    have := sumZ_bd n fun j hj => h j (by omega)
    have := h n (by omega)
    show (sumZ n f + f n).natAbs ≤ _
    rw [Nat.succ_mul]
    omega
theorem sumZ_cast (f : Nat → Int) : ∀ n, ((sumZ n f : Int) : Rat) = sumTo n (fun j => (f j : Rat))
  | 0 => rfl
  | n + 1 => by
    show ((sumZ n f + f n : Int) : Rat) = sumTo n _ + _
    rw [← sumZ_cast f n, Rat.intCast_add]
theorem sumZ_congr {f g : Nat → Int} : ∀ {n}, (∀ j, j < n → f j = g j) → sumZ n f = sumZ n g
  | 0, _ => rfl
  | n + 1, h => by
    show sumZ n f + f n = sumZ n g + g n
    rw [sumZ_congr fun j hj => h j (by omega), h n (by omega)]
theorem siegel {u e M : Nat} (U : Nat → Nat → Int) (hu : e < u) (hM : ∀ i, i < u → ∀ c, c < e → (U i c).natAbs ≤ M) :
    ∃ l : Nat → Int, (∃ i, i < u ∧ l i ≠ 0) ∧ (∀ i, (l i).natAbs ≤ (2 * u * M + 1) ^ e) ∧ ∀ c, c < e → sumZ u (fun i => l i * U i c) = 0 := by
  generalize hX : (2 * u * M + 1) ^ e = X
  have X1 : 1 ≤ X := by rw [← hX]; exact Nat.one_le_pow _ _ (by omega)
  let N := (X + 1) ^ u
  let sh : Nat := u * (X * M)
  let F : Nat → Nat → Int := fun c x => sumZ u (fun i => (dig (X + 1) x i : Int) * U i c)
  have Fb : ∀ c, c < e → ∀ x, (F c x).natAbs ≤ sh := fun c hc x => sumZ_bd u fun j hj => by
    rw [Int.natAbs_mul]
    have a : ((dig (X + 1) x j : Nat) : Int).natAbs ≤ X := by
      have := dig_lt (B := X + 1) (by omega) x j
      simp
      omega
    exact Nat.mul_le_mul a (hM j hj c hc)
  let fs : List (Nat → Nat) := (List.range e).map fun c x => (F c x + sh).toNat
  have flen : fs.length = e := by simp [fs]
  have R1 : (2 * sh + 1) ^ e < (List.range N).length := by
    rw [List.length_range]
    have h1 : 2 * sh + 1 ≤ (2 * u * M + 1) * X := by
      have : 2 * sh = 2 * u * M * X := by
        show 2 * (u * (X * M)) = _
        simp only [Nat.mul_assoc, Nat.mul_comm, Nat.mul_left_comm]
      rw [this, Nat.add_mul]
      omega
    have h2 : (2 * sh + 1) ^ e ≤ X * X ^ e := by
      refine Nat.le_trans (Nat.pow_le_pow_left h1 e) ?_
      rw [Nat.mul_pow, hX]
      exact Nat.le_refl _
    have h3 : X * X ^ e = X ^ (e + 1) := by rw [Nat.pow_succ, Nat.mul_comm]
    have h4 : X ^ (e + 1) < (X + 1) ^ (e + 1) := Nat.pow_lt_pow_left (by omega) (by omega)
    have h5 : (X + 1) ^ (e + 1) ≤ (X + 1) ^ u := Nat.pow_le_pow_right (by omega) (by omega)
    show _ < (X + 1) ^ u
    omega
  obtain ⟨x, hx, y, hy, ne, hf⟩ := agree (2 * sh + 1) fs (List.range N) List.nodup_range (fun f hf x hx => by
    obtain ⟨c, hc, rfl⟩ := List.mem_map.mp hf
    have := Fb c (by simpa using hc) x
    show (F c x + sh).toNat < _
    omega) (by rw [flen]; exact R1)
  obtain ⟨i, hi, hd⟩ := dig_diff (B := X + 1) (by omega) u x y (by simpa [N] using hx) (by simpa [N] using hy) ne
  refine ⟨fun i => (dig (X + 1) x i : Int) - dig (X + 1) y i, ⟨i, hi, by dsimp only; omega⟩, fun j => ?_, fun c hc => ?_⟩
  · have a := dig_lt (B := X + 1) (by omega) x j
    have b := dig_lt (B := X + 1) (by omega) y j
    show ((dig (X + 1) x j : Int) - dig (X + 1) y j).natAbs ≤ X
    omega
  · have q := hf (fun x => (F c x + sh).toNat) (List.mem_map.mpr ⟨c, by simpa using hc, rfl⟩)
    have a := Fb c hc x
    have b := Fb c hc y
    have e2 : F c x = F c y := by
      have q2 : (F c x + sh).toNat = (F c y + sh).toNat := q
      omega
    have e3 : sumZ u (fun i => ((dig (X + 1) x i : Int) - dig (X + 1) y i) * U i c) = F c x - F c y := by
      show _ = sumZ u _ - sumZ u _
      rw [← sumZ_sub]
      exact sumZ_congr fun j _ => Int.sub_mul ..
    show sumZ u (fun i => ((dig (X + 1) x i : Int) - dig (X + 1) y i) * U i c) = 0
    rw [e3, e2]
    omega
theorem sum_swap {F : Nat → Nat → Rat} (u : Nat) : ∀ m, sumTo m (fun p => sumTo u (fun i => F p i)) = sumTo u (fun i => sumTo m (fun p => F p i))
  | 0 => (sum_zero fun _ _ => rfl).symm
  | m + 1 => by
    show sumTo m (fun p => sumTo u (fun i => F p i)) + sumTo u (fun i => F m i) = sumTo u (fun i => sumTo m (fun p => F p i) + F m i)
    rw [sum_swap u m, sum_split]
/-! ### a row is short -/
/-- weights of the first rows are weights of the rows now -/
def Spans (m n k : Nat) (orig cur : Nat → Nat → Int) : Prop :=
  ∀ L : Nat → Rat, ∃ mu : Nat → Rat, (∀ j, j ≤ n → sumTo m (fun p => L p * (orig p j : Rat)) = sumTo m (fun p => mu p * (cur p j : Rat))) ∧ (∀ p, k ≤ p → L p = 0 → mu p = 0) ∧ ((∃ p, p < m ∧ L p ≠ 0) → ∃ p, p < m ∧ mu p ≠ 0)
/-- nothing but 1 divides the row, or it is nothing -/
def Prim (n : Nat) (r : Nat → Int) : Prop := (∀ j, j ≤ n → r j = 0) ∨ ∀ g : Nat, (∀ j, j ≤ n → (g : Int) ∣ r j) → g = 1
theorem filter_idx {p : Nat → Bool} {t : Nat} : ∀ {k}, t ∈ (List.range k).filter p ↔ t < k ∧ p t = true := by
  intro k
  simp
theorem short_row {m n k M : Nat} {orig cur : Nat → Nat → Int} {cs : Nat → Nat} (hk : k ≤ m) (hcs : ∀ t, t < k → cs t ≤ n) (hz : ∀ t, t < k → ∀ p, p < m → p ≠ t → cur p (cs t) = 0) (hnz : ∀ t, t < k → cur t (cs t) ≠ 0)
    (hS : Spans m n k orig cur) (hM : ∀ p, p < m → ∀ j, j ≤ n → (orig p j).natAbs ≤ M) {s : Nat} (hs : s < m) (hp : Prim n (cur s)) :
    ∀ j, j ≤ n → (cur s j).natAbs ≤ (k + 1) * ((2 * (k + 1) * M + 1) ^ k * M) := by
  rcases hp with h0 | hp
  · intro j hj
    rw [h0 j hj]
    exact Nat.zero_le _
  -- the pivots but s, and s
  let oth : List Nat := (List.range k).filter fun t => t != s
  have ok : ∀ t, t ∈ oth ↔ t < k ∧ t ≠ s := fun t => by simp [oth]
  have ond : oth.Nodup := List.nodup_range.filter _
  have olen : oth.length ≤ k := by
    have := List.length_filter_le (fun t => t != s) (List.range k)
    rw [List.length_range] at this
    exact this
  let pos : Nat → Nat := fun i => (oth ++ [s]).getD i 0
  have pnd : (oth ++ [s]).Nodup := by
    rw [List.nodup_append]
    refine ⟨ond, by simp, fun a ha b hb => ?_⟩
    have : b = s := by simpa using hb
    rw [this]
    exact ((ok a).mp ha).2
  have pl : (oth ++ [s]).length = oth.length + 1 := by simp
  have pm : ∀ i, i < oth.length + 1 → pos i = s ∨ (pos i < k ∧ pos i ≠ s) := fun i hi => by
    have : pos i ∈ oth ++ [s] := by
      show (oth ++ [s]).getD i 0 ∈ _
      rw [getD_get (by omega)]
      exact List.getElem_mem _
    rcases List.mem_append.mp this with a | a
    · exact .inr ((ok _).mp a)
    · exact .inl (by simpa using a)
  have pm2 : ∀ i, i < oth.length + 1 → pos i < m := fun i hi => by
    rcases pm i hi with a | a
    · rw [a]; exact hs
    · omega
  have hcol : ∀ c, c < oth.length → oth.getD c 0 < k ∧ oth.getD c 0 ≠ s := fun c hc => by
    rw [getD_get hc]
    exact (ok _).mp (List.getElem_mem _)
  obtain ⟨l, ⟨i0, hi0, hl0⟩, hlb, hl⟩ := siegel (u := oth.length + 1) (e := oth.length) (M := M) (fun i c => orig (pos i) (cs (oth.getD c 0))) (by omega)
    (fun i hi c hc => hM _ (pm2 i hi) _ (hcs _ (hcol c hc).1))
  let L : Nat → Rat := fun p => sumTo (oth.length + 1) fun i => if pos i = p then (l i : Rat) else 0
  have Lsum : ∀ j, sumTo m (fun p => L p * (orig p j : Rat)) = ((sumZ (oth.length + 1) (fun i => l i * orig (pos i) j) : Int) : Rat) := fun j => by
    have e1 : ∀ p, L p * (orig p j : Rat) = sumTo (oth.length + 1) fun i => if pos i = p then (l i : Rat) * (orig p j : Rat) else 0 := fun p => by
      show sumTo _ _ * _ = _
      have := sum_lin (orig p j : Rat) 0 (fun i => if pos i = p then (l i : Rat) else 0) (fun _ => 0) (oth.length + 1)
      rw [show sumTo (oth.length + 1) (fun i => if pos i = p then (l i : Rat) else 0) * (orig p j : Rat) = (orig p j : Rat) * sumTo (oth.length + 1) (fun i => if pos i = p then (l i : Rat) else 0) + 0 * sumTo (oth.length + 1) (fun _ => 0) from by grind, ← this]
      exact sum_congr fun i _ => by split <;> grind
    rw [sum_congr (g := fun p => sumTo (oth.length + 1) fun i => if pos i = p then (l i : Rat) * (orig p j : Rat) else 0) fun p _ => e1 p, sum_swap, sumZ_cast]
    refine sum_congr fun i hi => ?_
    rw [sum_one (i := pos i) (pm2 i hi) fun p _ ne => if_neg fun z => ne z.symm, if_pos rfl, Rat.intCast_mul]
  have Lpos : L (pos i0) ≠ 0 := by
    show sumTo _ _ ≠ 0
    rw [sum_one (i := i0) hi0 fun i hi ne => if_neg fun z => ne ?_, if_pos rfl]
    · exact cast_ne hl0
    · have a : i < (oth ++ [s]).length := by omega
      have b : i0 < (oth ++ [s]).length := by omega
      have z2 : (oth ++ [s])[i] = (oth ++ [s])[i0] := by
        have : pos i = pos i0 := z
        show _
        rw [← getD_get (d := 0) a, ← getD_get (d := 0) b]
        exact this
      exact (List.getElem_inj pnd).mp z2
  have Lout : ∀ p, k ≤ p → p ≠ s → L p = 0 := fun p hkp ne => sum_zero fun i hi => if_neg fun z => by
    rcases pm i hi with a | a
    · exact ne (z.symm.trans a)
    · omega
  obtain ⟨mu, hmu, hsup, hne⟩ := hS L
  obtain ⟨p1, hp1, hp1n⟩ := hne ⟨pos i0, pm2 i0 hi0, Lpos⟩
  have muz : ∀ p, p < m → p ≠ s → mu p = 0 := fun p hpm ne => by
    by_cases hkp : k ≤ p
    · exact hsup p hkp (Lout p hkp ne)
    · have hpk : p < k := by omega
      obtain ⟨c, hc, ec⟩ := List.mem_iff_getElem.mp ((ok p).mpr ⟨hpk, ne⟩)
      have h1 := hl c hc
      rw [getD_get hc, ec] at h1
      have h2 := hmu (cs p) (hcs p hpk)
      rw [Lsum, h1, sum_one (i := p) hpm fun q hq ne2 => by
        rw [hz p hpk q hq ne2]
        show mu q * 0 = 0
        grind] at h2
      have h3 := cast_ne (hnz p hpk)
      have h4 : (0 : Rat) = mu p * (cur p (cs p) : Rat) := h2
      grind
  have mus : mu s ≠ 0 := by
    have : p1 = s := Classical.byContradiction fun z => hp1n (muz p1 hp1 z)
    rw [← this]; exact hp1n
  -- a whole row on the line
  have line : ∀ j, j ≤ n → ((sumZ (oth.length + 1) (fun i => l i * orig (pos i) j) : Int) : Rat) = mu s * (cur s j : Rat) := fun j hj => by
    rw [← Lsum, hmu j hj, sum_one (i := s) hs fun q hq ne2 => by
      rw [muz q hq ne2]
      grind]
  generalize hv : (fun j => sumZ (oth.length + 1) (fun i => l i * orig (pos i) j)) = v at line
  have vj : ∀ j, sumZ (oth.length + 1) (fun i => l i * orig (pos i) j) = v j := fun j => congrFun hv j
  have line2 : ∀ j, j ≤ n → v j * (mu s).den = (mu s).num * cur s j := fun j hj => by
    have h1 := line j hj
    rw [vj] at h1
    have h2 : ((mu s).num : Rat) = mu s * (((mu s).den : Int) : Rat) := by
      have e := Rat.num_divInt_den (mu s)
      rw [Rat.divInt_eq_div] at e
      have d0 : (((mu s).den : Int) : Rat) ≠ 0 := cast_ne (by have := (mu s).den_nz; omega)
      rw [← e]
      grind
    have h3 : (v j : Rat) * (((mu s).den : Int) : Rat) = ((mu s).num : Rat) * (cur s j : Rat) := by
      rw [h1, h2]
      grind
    exact_mod_cast h3
  have den1 : (mu s).den = 1 := hp (mu s).den fun j hj => by
    have h1 := line2 j hj
    have h2 : ((mu s).den : Int) ∣ (mu s).num * cur s j := ⟨v j, by rw [← h1, Int.mul_comm]⟩
    have h3 : Nat.Coprime (mu s).den (mu s).num.natAbs := by
      have := (mu s).reduced
      exact this.symm
    rw [Int.ofNat_dvd_left] at h2 ⊢
    rw [Int.natAbs_mul] at h2
    exact h3.dvd_of_dvd_mul_left h2
  have num0 : (mu s).num ≠ 0 := fun z => mus (by
    have := Rat.num_eq_zero (q := mu s)
    exact this.mp z)
  intro j hj
  have h1 := line2 j hj
  rw [den1] at h1
  have h2 : (cur s j).natAbs ≤ (v j).natAbs := by
    have : (v j).natAbs = (mu s).num.natAbs * (cur s j).natAbs := by
      rw [← Int.natAbs_mul, ← h1]
      simp
    rw [this]
    exact Nat.le_mul_of_pos_left _ (by omega)
  have h3 : (v j).natAbs ≤ (oth.length + 1) * ((2 * (oth.length + 1) * M + 1) ^ oth.length * M) := by
    rw [← vj]
    refine sumZ_bd _ fun i hi => ?_
    rw [Int.natAbs_mul]
    exact Nat.mul_le_mul (hlb i) (hM _ (pm2 i hi) j hj)
  refine Nat.le_trans h2 (Nat.le_trans h3 ?_)
  refine Nat.mul_le_mul (by omega) (Nat.mul_le_mul ?_ (Nat.le_refl _))
  refine Nat.le_trans (Nat.pow_le_pow_left (n := 2 * (oth.length + 1) * M + 1) (m := 2 * (k + 1) * M + 1) ?_ _) (Nat.pow_le_pow_right (by omega) olen)
  have : 2 * (oth.length + 1) * M ≤ 2 * (k + 1) * M := Nat.mul_le_mul (by omega) (Nat.le_refl _)
  omega
end Cw

/-! The numbers of the program's rows, at every column. -/
namespace Cw
def sw (d p q : Nat) : Nat := if q = d then p else if q = p then d else q
theorem sw_lt {m d p q : Nat} (hd : d < m) (hp : p < m) (hq : q < m) : sw d p q < m := by
  unfold sw
  split
  · exact hp
  · split <;> assumption
theorem sw_sw (d p q : Nat) : sw d p (sw d p q) = q := by
  unfold sw
  by_cases a : q = d
  · subst a
    rw [if_pos rfl]
    by_cases b : p = q
    · subst b; simp
    · rw [if_neg b, if_pos rfl]
  · rw [if_neg a]
    by_cases b : q = p
    · subst b; simp
    · rw [if_neg b, if_neg a, if_neg b]
theorem sum_sw {m d p : Nat} (hd : d < m) (hp : p < m) (f : Nat → Rat) : sumTo m (fun q => f (sw d p q)) = sumTo m f := by
  by_cases e : d = p
  · subst e
    refine sum_congr fun q _ => ?_
    unfold sw
    by_cases h : q = d
    · rw [if_pos h, h]
    · rw [if_neg h, if_neg h]
  · have h : sumTo m (fun q => 1 * f (sw d p q) + (-1) * f q) = 0 := by
      rw [sum_two (i := d) (k := p) hd hp e fun q _ h1 h2 => by unfold sw; rw [if_neg h1, if_neg h2]; grind]
      have a : sw d p d = p := if_pos rfl
      have b : sw d p p = d := by unfold sw; rw [if_neg (fun z => e z.symm), if_pos rfl]
      rw [a, b]
      grind
    rw [sum_lin] at h
    grind
theorem at2_swapped {l : List (List Int)} {d p q : Nat} (hd : d < l.length) (hp : p < l.length) (hq : q < l.length) (j : Nat) : at2 (swapped l d p) q j = at2 l (sw d p q) j := by
  unfold at2
  rw [getD_get (l := swapped l d p) (by rw [swapped_len]; exact hq), swapped_get hd hp hq]
  unfold sw
  by_cases a : q = d
  · rw [if_pos a, if_pos a, getD_get hp]
  · rw [if_neg a, if_neg a]
    by_cases b : q = p
    · rw [if_pos b, if_pos b, getD_get hd]
    · rw [if_neg b, if_neg b, getD_get hq]
theorem spans_congr {m n k : Nat} {o o' c c' : Nat → Nat → Int} (ho : ∀ p, p < m → ∀ j, o p j = o' p j) (hc : ∀ p, p < m → ∀ j, c p j = c' p j) (h : Spans m n k o c) : Spans m n k o' c' := fun L => by
  obtain ⟨mu, h1, h2, h3⟩ := h L
  refine ⟨mu, fun j hj => ?_, h2, h3⟩
  have e1 : sumTo m (fun p => L p * (o' p j : Rat)) = sumTo m (fun p => L p * (o p j : Rat)) := sum_congr fun p hp => by rw [ho p hp]
  have e2 : sumTo m (fun p => mu p * (c' p j : Rat)) = sumTo m (fun p => mu p * (c p j : Rat)) := sum_congr fun p hp => by rw [hc p hp]
  rw [e1, e2]
  exact h1 j hj
theorem spans_sw {m n k d p : Nat} {o c : Nat → Nat → Int} (hd : d < m) (hp : p < m) (hkd : k ≤ d) (hkp : k ≤ p) (h : Spans m n k o c) : Spans m n k (fun q => o (sw d p q)) (fun q => c (sw d p q)) := fun L => by
  obtain ⟨mu, h1, h2, h3⟩ := h fun q => L (sw d p q)
  refine ⟨fun q => mu (sw d p q), fun j hj => ?_, fun q hq h0 => ?_, fun ⟨q, hq, h0⟩ => ?_⟩
  · have e1 := sum_sw hd hp fun q => L (sw d p q) * (o q j : Rat)
    have e2 := sum_sw hd hp fun q => mu q * (c q j : Rat)
    simp only [sw_sw] at e1
    rw [e2, ← h1 j hj, ← e1]
  · refine h2 _ ?_ (by rw [sw_sw]; exact h0)
    unfold sw
    split
    · exact hkp
    · split <;> assumption
  · obtain ⟨q', hq', h0'⟩ := h3 ⟨sw d p q, sw_lt hd hp hq, by rw [sw_sw]; exact h0⟩
    exact ⟨sw d p q', sw_lt hd hp hq', by dsimp only; rw [sw_sw]; exact h0'⟩
/-- all rows but the pivot's are changed: a times the old one is g times the new one and b times the pivot's -/
theorem spans_elim {m n k : Nat} {o c c' : Nat → Nat → Int} {a : Rat} {g b : Nat → Rat} (hk : k < m) (ha : a ≠ 0) (hg : ∀ p, g p ≠ 0) (hp : ∀ j, j ≤ n → c' k j = c k j)
    (he : ∀ p, p < m → p ≠ k → ∀ j, j ≤ n → a * (c p j : Rat) = g p * (c' p j : Rat) + b p * (c k j : Rat)) (h : Spans m n k o c) : Spans m n (k + 1) o c' := fun L => by
  obtain ⟨mu, h1, h2, h3⟩ := h L
  let T : Rat := sumTo m fun p => if p = k then 0 else mu p * b p / a
  refine ⟨fun p => if p = k then mu k + T else mu p * g p / a, fun j hj => ?_, fun p hkp h0 => ?_, fun hL => ?_⟩
  · rw [h1 j hj]
    have e : ∀ p, p < m → mu p * (c p j : Rat) = (if p = k then mu k * (c k j : Rat) else (mu p * g p / a) * (c' p j : Rat)) + (if p = k then 0 else (mu p * b p / a) * (c k j : Rat)) := fun p hpm => by
      by_cases q : p = k
      · rw [if_pos q, if_pos q, q]
        grind
      · rw [if_neg q, if_neg q]
        have := he p hpm q j hj
        grind
    rw [sum_congr e, sum_split]
    have t : sumTo m (fun p => if p = k then 0 else (mu p * b p / a) * (c k j : Rat)) = T * (c k j : Rat) := by
      have := sum_lin (c k j : Rat) 0 (fun p => if p = k then 0 else mu p * b p / a) (fun _ => 0) m
      rw [show T * (c k j : Rat) = (c k j : Rat) * T + 0 * sumTo m (fun _ => 0) from by grind, ← this]
      exact sum_congr fun p _ => by split <;> grind
    rw [t]
    have e2 : ∀ p, p < m → (if p = k then mu k + T else mu p * g p / a) * (c' p j : Rat) = (if p = k then mu k * (c k j : Rat) else (mu p * g p / a) * (c' p j : Rat)) + (if p = k then T * (c k j : Rat) else 0) := fun p hpm => by
      by_cases q : p = k
      · rw [if_pos q, if_pos q, if_pos q, q, hp j hj]
        grind
      · rw [if_neg q, if_neg q, if_neg q]
        grind
    rw [sum_congr e2, sum_split, sum_one (f := fun p => if p = k then T * (c k j : Rat) else 0) (i := k) hk fun p _ ne => if_neg ne, if_pos rfl]
  · have : p ≠ k := by omega
    dsimp only
    rw [if_neg this, h2 p (by omega) h0]
    grind
  · obtain ⟨p, hpm, hn⟩ := h3 hL
    by_cases all : ∃ q, q < m ∧ q ≠ k ∧ mu q ≠ 0
    · obtain ⟨q, hq, hqk, hqn⟩ := all
      refine ⟨q, hq, ?_⟩
      dsimp only
      rw [if_neg hqk]
      have := hg q
      intro z
      have : mu q * g q = 0 := by grind
      grind
    · have hz : ∀ q, q < m → q ≠ k → mu q = 0 := fun q hq hqk => Classical.byContradiction fun z => all ⟨q, hq, hqk, z⟩
      refine ⟨k, hk, ?_⟩
      dsimp only
      rw [if_pos rfl]
      have T0 : T = 0 := sum_zero fun q hq => by
        by_cases e : q = k
        · rw [if_pos e]
        · rw [if_neg e, hz q hq e]
          grind
      rw [T0]
      have pk : p = k := Classical.byContradiction fun z => hn (hz p hpm z)
      rw [← pk]
      grind
theorem dvd_gcdAll_aux (g : Nat) : ∀ (r : List Int) (d : Int), (g : Int) ∣ d → (∀ x ∈ r, (g : Int) ∣ x) → (g : Int) ∣ r.foldl (fun d x => ((Nat.gcd x.natAbs d.natAbs : Nat) : Int)) d
  | [], d, h, _ => h
  | y :: r, d, h, hx => by
    rw [List.foldl_cons]
    refine dvd_gcdAll_aux g r _ ?_ fun x hm => hx x (List.mem_cons_of_mem _ hm)
    have a := hx y (List.mem_cons_self ..)
    rw [Int.ofNat_dvd_left] at a h
    exact Int.ofNat_dvd.mpr (Nat.dvd_gcd a h)
theorem dvd_gcdAll {g : Nat} {r : List Int} (h : ∀ x ∈ r, (g : Int) ∣ x) : (g : Int) ∣ gcdAll r := dvd_gcdAll_aux g r 0 (Int.dvd_zero _) h
theorem gcdAll_zero {r : List Int} (h : gcdAll r = 0) : ∀ x ∈ r, x = 0 := fun x hx => by
  obtain ⟨k, e⟩ := gcdAll_dvd r x hx
  rw [h] at e
  omega
theorem prim_short {n : Nat} {r : List Int} (hl : r.length = n + 1) : Prim n fun j => (shortened r).getD j 0 := by
  unfold shortened
  by_cases h : gcdAll r = 0
  · rw [if_pos h]
    left
    intro j hj
    show r.getD j 0 = 0
    have hj2 : j < r.length := by omega
    rw [getD_get hj2]
    exact gcdAll_zero h _ (List.getElem_mem _)
  · rw [if_neg h]
    right
    intro g hg
    have key : ((g * (gcdAll r).natAbs : Nat) : Int) ∣ gcdAll r := dvd_gcdAll fun x hx => by
      obtain ⟨j, hj, rfl⟩ := List.mem_iff_getElem.mp hx
      have a : (g : Int) ∣ (r.map (· / gcdAll r)).getD j 0 := hg j (by omega)
      rw [getD_get (by rw [List.length_map]; exact hj), List.getElem_map] at a
      obtain ⟨k, ek⟩ := gcdAll_dvd r r[j] (List.getElem_mem hj)
      rw [ek, Int.mul_ediv_cancel_left _ h] at a
      rw [ek]
      have nn := gcdAll_nn r
      have e : ((g * (gcdAll r).natAbs : Nat) : Int) = gcdAll r * g := by
        rw [Int.natCast_mul, Int.natAbs_of_nonneg nn, Int.mul_comm]
      rw [e]
      exact Int.mul_dvd_mul (Int.dvd_refl _) a
    rw [Int.ofNat_dvd_left] at key
    have pos : 0 < (gcdAll r).natAbs := by omega
    have le := Nat.le_of_dvd pos key
    have g0 : g ≠ 0 := fun z => by
      subst z
      rw [Nat.zero_mul] at key
      have := Nat.eq_zero_of_zero_dvd key
      omega
    have : g * (gcdAll r).natAbs ≤ 1 * (gcdAll r).natAbs := by omega
    have := Nat.le_of_mul_le_mul_right this pos
    omega
theorem short_mul {r : List Int} {j : Nat} : ∃ g : Rat, g ≠ 0 ∧ ∀ j, ((r.getD j 0 : Int) : Rat) = g * (((shortened r).getD j 0 : Int) : Rat) := by
  unfold shortened
  by_cases h : gcdAll r = 0
  · rw [if_pos h]
    exact ⟨1, by decide, fun j => by grind⟩
  · rw [if_neg h]
    refine ⟨gcdAll r, cast_ne h, fun j => ?_⟩
    by_cases hj : j < r.length
    · rw [getD_get hj, getD_get (by rw [List.length_map]; exact hj), List.getElem_map]
      obtain ⟨k, ek⟩ := gcdAll_dvd r r[j] (List.getElem_mem hj)
      rw [ek, Int.mul_ediv_cancel_left _ h, Rat.intCast_mul]
    · rw [List.getD_eq_getElem?_getD, List.getD_eq_getElem?_getD, List.getElem?_eq_none (by omega), List.getElem?_eq_none (by rw [List.length_map]; omega)]
      show ((0 : Int) : Rat) = _ * ((0 : Int) : Rat)
      grind
structure BInv (n : Nat) (rows : List (List Int)) (st : List (List Int) × Nat) : Prop where
  ex : ∃ orig : List (List Int), orig.length = st.1.length ∧ (∀ r ∈ orig, r ∈ rows) ∧ Spans st.1.length n st.2 (at2 orig) (at2 st.1) ∧ ∀ s, s < st.1.length → (∀ j, j ≤ n → at2 st.1 s j = at2 orig s j) ∨ Prim n (at2 st.1 s)
theorem binv_zero (n : Nat) (rows : List (List Int)) : BInv n rows (rows, 0) :=
  ⟨rows, rfl, fun _ h => h, fun L => ⟨L, fun _ _ => rfl, fun _ _ h => h, fun h => h⟩, fun s _ => .inl fun _ _ => rfl⟩
theorem at2_mapIdx {l : List (List Int)} {f : Nat → List Int → List Int} {q : Nat} (hq : q < l.length) (j : Nat) : at2 (l.mapIdx f) q j = (f q (l.getD q [])).getD j 0 := by
  unfold at2
  rw [getD_get (l := l.mapIdx f) (by rw [List.length_mapIdx]; exact hq), List.getElem_mapIdx, getD_get hq]
theorem binv_step {n c : Nat} {rows : List (List Int)} {st : List (List Int) × Nat} (hn : ∀ r ∈ st.1, r.length = n + 1) (hc : c < n) (h : BInv n rows st) : BInv n rows (redStep st c) := by
  obtain ⟨left, d⟩ := st
  dsimp only at hn
  unfold redStep
  dsimp only
  cases hw : rowWith left d c with
  | none => exact h
  | some p =>
    dsimp only
    obtain ⟨hp, hdp, h0⟩ := rowWith_some hw
    have hd : d < left.length := by omega
    obtain ⟨orig, hl, hm, hS, hP⟩ := h.ex
    dsimp only at hl hS hP
    have sl := swapped_len left d p
    have ml : ((swapped left d p).mapIdx (clearRow (left.getD p []) d c)).length = left.length := by rw [List.length_mapIdx, sl]
    -- the rows, swapped
    have cur1 : ∀ q, q < left.length → ∀ j, at2 (swapped left d p) q j = at2 left (sw d p q) j := fun q hq j => at2_swapped hd hp hq j
    have or1 : ∀ q, q < left.length → ∀ j, at2 (swapped orig d p) q j = at2 orig (sw d p q) j := fun q hq j => at2_swapped (by omega) (by omega) (by omega) j
    have S1 : Spans left.length n d (at2 (swapped orig d p)) (at2 (swapped left d p)) := spans_congr (fun q hq j => (or1 q hq j).symm) (fun q hq j => (cur1 q hq j).symm) (spans_sw hd hp (Nat.le_refl _) hdp hS)
    have piv : (swapped left d p).getD d [] = left.getD p [] := by
      rw [getD_get (by omega), swapped_get hd hp hd, if_pos rfl, getD_get hp]
    have pv : (left.getD p []).getD c 0 ≠ 0 := h0
    have len1 : ∀ q, q < left.length → ((swapped left d p).getD q []).length = n + 1 := fun q hq => by
      rw [getD_get (by omega), swapped_get hd hp hq]
      split
      · exact hn _ (List.getElem_mem _)
      · split <;> exact hn _ (List.getElem_mem _)
    have new : ∀ q, q < left.length → ∀ j, at2 ((swapped left d p).mapIdx (clearRow (left.getD p []) d c)) q j = (clearRow (left.getD p []) d c q ((swapped left d p).getD q [])).getD j 0 := fun q hq j => at2_mapIdx (by omega) j
    refine ⟨swapped orig d p, by rw [swapped_len, ml]; exact hl, fun r hr => ?_, ?_, fun s hs => ?_⟩
    · obtain ⟨q, hq, rfl⟩ := List.mem_iff_getElem.mp hr
      rw [swapped_len] at hq
      rw [swapped_get (by omega) (by omega) hq]
      apply hm
      split
      · exact List.getElem_mem _
      · split <;> exact List.getElem_mem _
    · rw [ml]
      -- how each row is changed
      have ch : ∀ q, ∃ gb : Rat × Rat, gb.1 ≠ 0 ∧ (q < left.length → q ≠ d → ∀ j, j ≤ n → ((left.getD p []).getD c 0 : Rat) * (at2 (swapped left d p) q j : Rat) = gb.1 * (at2 ((swapped left d p).mapIdx (clearRow (left.getD p []) d c)) q j : Rat) + gb.2 * (at2 (swapped left d p) d j : Rat)) := fun q => by
        by_cases hq : q < left.length ∧ q ≠ d
        · obtain ⟨hq1, hq2⟩ := hq
          by_cases z : ((swapped left d p).getD q []).getD c 0 = 0
          · refine ⟨((left.getD p []).getD c 0, 0), cast_ne pv, fun _ _ j hj => ?_⟩
            have e : clearRow (left.getD p []) d c q ((swapped left d p).getD q []) = (swapped left d p).getD q [] := by
              unfold clearRow
              rw [if_neg fun y => y.2 z]
            rw [new q hq1, e]
            show _ = _ * (at2 (swapped left d p) q j : Rat) + _
            grind
          · obtain ⟨g, g0, hg⟩ := short_mul (r := rawOf ((swapped left d p).getD q []) (left.getD p []) c) (j := 0)
            refine ⟨(g, ((swapped left d p).getD q []).getD c 0), g0, fun _ _ j hj => ?_⟩
            have e : clearRow (left.getD p []) d c q ((swapped left d p).getD q []) = shortened (rawOf ((swapped left d p).getD q []) (left.getD p []) c) := by
              unfold clearRow
              rw [if_pos ⟨hq2, z⟩]
              rfl
            rw [new q hq1, e]
            dsimp only
            rw [← hg j]
            have r := ab_raw (row := (swapped left d p).getD q []) (pivot := left.getD p []) (c := c) (j := j) (by rw [len1 q hq1]; omega)
            unfold ab at r
            rw [r]
            have e3 : at2 (swapped left d p) d j = (left.getD p []).getD j 0 := by
              unfold at2
              rw [piv]
            rw [e3]
            show _ * (((swapped left d p).getD q []).getD j 0 : Rat) = _
            grind
        · exact ⟨(1, 0), by decide, fun a b => absurd ⟨a, b⟩ hq⟩
      refine spans_elim (a := ((left.getD p []).getD c 0 : Rat)) (g := fun q => (Classical.choose (ch q)).1) (b := fun q => (Classical.choose (ch q)).2) hd (cast_ne pv) (fun q => (Classical.choose_spec (ch q)).1) (fun j hj => ?_) (fun q hq ne j hj => (Classical.choose_spec (ch q)).2 hq ne j hj) S1
      rw [new d hd]
      unfold clearRow
      rw [if_neg fun y => y.1 rfl]
      rfl
    · rw [ml] at hs
      by_cases z : s ≠ d ∧ ((swapped left d p).getD s []).getD c 0 ≠ 0
      · right
        have e : clearRow (left.getD p []) d c s ((swapped left d p).getD s []) = shortened (rawOf ((swapped left d p).getD s []) (left.getD p []) c) := by
          unfold clearRow
          rw [if_pos z]
          rfl
        have q := prim_short (n := n) (r := rawOf ((swapped left d p).getD s []) (left.getD p []) c) (by rw [raw_len]; exact len1 s hs)
        have e2 : at2 ((swapped left d p).mapIdx (clearRow (left.getD p []) d c)) s = fun j => (shortened (rawOf ((swapped left d p).getD s []) (left.getD p []) c)).getD j 0 := by
          funext j
          rw [new s hs, e]
        rw [e2]
        exact q
      · have e2 : at2 ((swapped left d p).mapIdx (clearRow (left.getD p []) d c)) s = at2 left (sw d p s) := by
          funext j
          rw [new s hs]
          unfold clearRow
          rw [if_neg z]
          exact cur1 s hs j
        rw [e2]
        rcases hP (sw d p s) (sw_lt hd hp hs) with a | a
        · left
          intro j hj
          rw [a j hj]
          exact (or1 s hs j).symm
        · exact .inr a
theorem done_le (rows : List (List Int)) : ∀ c, (redTo rows c).2 ≤ c
  | 0 => Nat.le_refl _
  | c + 1 => by
    rw [redTo_succ]
    have := done_le rows c
    unfold redStep
    split
    · omega
    · show (redTo rows c).2 + 1 ≤ c + 1
      omega
theorem binv_all {n : Nat} {rows : List (List Int)} (hn : ∀ r ∈ rows, r.length = n + 1) : ∀ c, c ≤ n → BInv n rows (redTo rows c)
  | 0, _ => binv_zero n rows
  | c + 1, h => by
    obtain ⟨_, _, h1, _, _⟩ := red_all hn c (by omega)
    rw [redTo_succ]
    exact binv_step h1 (by omega) (binv_all hn c (by omega))
/-- THE BOUND: every number of every row, at every column -/
theorem red_small {n : Nat} {rows : List (List Int)} (h12 : n ≤ 12) (hn : ∀ r ∈ rows, r.length = n + 1) (hM : ∀ r ∈ rows, ∀ x ∈ r, x.natAbs ≤ 1000000000) {c : Nat} (hc : c ≤ n) : ∀ r ∈ (redTo rows c).1, ∀ x ∈ r, x.natAbs < 2 ^ 460 := by
  intro r hr x hx
  obtain ⟨s, hs, rfl⟩ := List.mem_iff_getElem.mp hr
  obtain ⟨cs, E, hlen, hd, _⟩ := red_all hn c hc
  obtain ⟨orig, hl, hm, hS, hP⟩ := (binv_all hn c hc).ex
  have hk := done_le rows c
  generalize redTo rows c = st at *
  obtain ⟨left, d⟩ := st
  dsimp only at *
  obtain ⟨j, hj, rfl⟩ := List.mem_iff_getElem.mp hx
  have hjn : j ≤ n := by
    have h1 : left[s].length = n + 1 := hlen _ (List.getElem_mem hs)
    have h2 : j < left[s].length := hj
    omega
  have ob : ∀ p, p < left.length → ∀ j, j ≤ n → (at2 orig p j).natAbs ≤ 1000000000 := fun p hp j hj => by
    have h1 : p < orig.length := by omega
    unfold at2
    rw [getD_get h1]
    have h2 := hm _ (List.getElem_mem h1)
    rw [getD_get (by rw [hn _ h2]; omega)]
    exact hM _ h2 _ (List.getElem_mem _)
  have ex : (left[s])[j] = at2 left s j := by
    unfold at2
    rw [getD_get hs, getD_get hj]
  rw [ex]
  have low : (1000000000 : Nat) < 2 ^ 460 := by decide +kernel
  rcases hP s hs with a | a
  · rw [a j hjn]
    exact Nat.lt_of_le_of_lt (ob s hs j hjn) low
  · have el := E.len
    simp only [abs_, List.length_map, List.length_take] at el
    have hcs : ∀ t, t < d → t < cs.length := fun t ht => by omega
    have up : ∀ t (ht : t < d) k (hk : k < left.length), k ≠ t → at2 left k (cs.getD t 0) = 0 := fun t ht k hk ne => by
      have h1 : cs[t]? = some (cs.getD t 0) := by rw [getD_get (hcs t ht)]; exact List.getElem?_eq_getElem _
      have e : (at2 left k (cs.getD t 0) : Rat) = 0 := by
        by_cases q : k < d
        · have h2 : (abs_ (left.take d))[k]? = some (ab left[k]) := by
            simp only [abs_, List.getElem?_map, List.getElem?_take_of_lt q, List.getElem?_eq_getElem hk]
            rfl
          have := E.z k t _ _ h2 h1 ne
          unfold at2
          rw [getD_get hk]
          exact this
        · have h2 : ab left[k] ∈ abs_ (left.drop d) := List.mem_map.mpr ⟨left[k], List.mem_iff_getElem.mpr ⟨k - d, by rw [List.length_drop]; omega, by rw [List.getElem_drop]; congr 1; omega⟩, rfl⟩
          have := E.zero _ h2 _ (E.lt _ (List.mem_of_getElem? h1))
          unfold at2
          rw [getD_get hk]
          exact this
      exact_mod_cast e
    have nz : ∀ t, t < d → at2 left t (cs.getD t 0) ≠ 0 := fun t ht z => by
      have h1 : cs[t]? = some (cs.getD t 0) := by rw [getD_get (hcs t ht)]; exact List.getElem?_eq_getElem _
      have h2 : (abs_ (left.take d))[t]? = some (ab left[t]) := by
        simp only [abs_, List.getElem?_map, List.getElem?_take_of_lt ht, List.getElem?_eq_getElem (show t < left.length by omega)]
        rfl
      refine E.nz t _ _ h2 h1 ?_
      unfold at2 at z
      have ht2 : t < left.length := by omega
      rw [getD_get ht2] at z
      unfold ab
      rw [z]
      rfl
    have hb := short_row (m := left.length) (n := n) (k := d) (M := 1000000000) (orig := at2 orig) (cur := at2 left) (cs := fun t => cs.getD t 0) hd (fun t ht => by
      have h1 : cs[t]? = some (cs.getD t 0) := by rw [getD_get (hcs t ht)]; exact List.getElem?_eq_getElem _
      have := E.lt _ (List.mem_of_getElem? h1)
      show cs.getD t 0 ≤ n
      omega) (fun t ht k hk ne => up t ht k hk ne) nz hS ob hs a j hjn
    refine Nat.lt_of_le_of_lt hb ?_
    have d12 : d ≤ 12 := by omega
    have z1 : (d + 1) * ((2 * (d + 1) * 1000000000 + 1) ^ d * 1000000000) ≤ 13 * ((2 * 13 * 1000000000 + 1) ^ 12 * 1000000000) := by
      refine Nat.mul_le_mul (by omega) (Nat.mul_le_mul ?_ (Nat.le_refl _))
      exact Nat.le_trans (Nat.pow_le_pow_left (n := 2 * (d + 1) * 1000000000 + 1) (m := 2 * 13 * 1000000000 + 1) (by omega) _) (Nat.pow_le_pow_right (by omega) d12)
    refine Nat.lt_of_le_of_lt z1 ?_
    decide +kernel
end Cw

/-! Days by number: a day on is one more. -/
namespace Cw
open Mu07
def leapOf (c : Bool) (y : Int) : Bool := if c = true then camLeap y else trueLeap y
def yearLen (c : Bool) (y : Int) : Int := if leapOf c y = true then 366 else 365
/-- days of the first k months -/
def aheadK (l : Bool) : Nat → Nat
  | 0 => 0
  | k + 1 => aheadK l k + daysOf l (k + 1)
theorem ahead12 (c : Bool) (y : Int) : ((aheadK (leapOf c y) 12 : Nat) : Int) = yearLen c y := by
  unfold yearLen
  cases leapOf c y <;> rfl
theorem ahead_le {l : Bool} : ∀ {j k : Nat}, j ≤ k → aheadK l j ≤ aheadK l k
  | j, 0, h => by
    have : j = 0 := by omega
    rw [this]
    exact Nat.le_refl _
  | j, k + 1, h => by
    by_cases e : j = k + 1
    · rw [e]; exact Nat.le_refl _
    · have := ahead_le (l := l) (j := j) (k := k) (by omega)
      show _ ≤ aheadK l k + _
      omega
/-- days ahead of a year's first, from the year 0's -/
def sumUp (f : Int → Int) : Nat → Int
  | 0 => 0
  | n + 1 => sumUp f n + f n
def sumDn (f : Int → Int) : Nat → Int
  | 0 => 0
  | n + 1 => sumDn f n + f (-(n + 1 : Int))
def yearsTo (c : Bool) : Int → Int
  | .ofNat n => sumUp (yearLen c) n
  | .negSucc n => - sumDn (yearLen c) (n + 1)
theorem years_succ (c : Bool) : ∀ y : Int, yearsTo c (y + 1) = yearsTo c y + yearLen c y
  | .ofNat n => rfl
  | .negSucc 0 => by
    show (0 : Int) = - (0 + yearLen c (-(0 + 1 : Int))) + yearLen c (-1)
    have : (-(0 + 1 : Int)) = -1 := by decide
    rw [this]
    omega
  | .negSucc (n + 1) => by
    show - sumDn (yearLen c) (n + 1) = - (sumDn (yearLen c) (n + 1) + yearLen c (-(((n + 1 : Nat) : Int) + 1))) + yearLen c (Int.negSucc (n + 1))
    have : (-(((n + 1 : Nat) : Int) + 1)) = Int.negSucc (n + 1) := by omega
    rw [this]
    omega
theorem yearLen_pos (c : Bool) (y : Int) : 365 ≤ yearLen c y := by
  unfold yearLen
  split <;> omega
theorem years_lt (c : Bool) (y : Int) : ∀ k : Nat, yearsTo c y + yearLen c y ≤ yearsTo c (y + 1 + k)
  | 0 => by
    have := years_succ c y
    have e : y + 1 + ((0 : Nat) : Int) = y + 1 := by omega
    rw [e]
    omega
  | k + 1 => by
    have h := years_lt c y k
    have := years_succ c (y + 1 + k)
    have p := yearLen_pos c (y + 1 + k)
    have e : y + 1 + ((k + 1 : Nat) : Int) = y + 1 + k + 1 := by omega
    rw [e]
    omega
/-- a year and a day of it are told by the number -/
theorem year_uniq {c : Bool} {y y' b b' : Int} (h0 : 0 ≤ b) (h1 : b < yearLen c y) (h0' : 0 ≤ b') (h1' : b' < yearLen c y') (h : yearsTo c y + b = yearsTo c y' + b') : y = y' ∧ b = b' := by
  have key : ¬ y < y' := fun lt => by
    have := years_lt c y (y' - y - 1).toNat
    have e : y + 1 + ((y' - y - 1).toNat : Int) = y' := by omega
    rw [e] at this
    omega
  have key2 : ¬ y' < y := fun lt => by
    have := years_lt c y' (y - y' - 1).toNat
    have e : y' + 1 + ((y - y' - 1).toNat : Int) = y := by omega
    rw [e] at this
    omega
  have e : y = y' := by omega
  subst e
  omega
structure Valid (l : Int → Bool) (x : Day) : Prop where
  m1 : 1 ≤ x.m
  m2 : x.m ≤ 12
  d1 : 1 ≤ x.d
  d2 : x.d ≤ daysOf (l x.y) x.m
def inYear (l : Int → Bool) (x : Day) : Int := (aheadK (l x.y) (x.m - 1) : Int) + (x.d : Int) - 1
def ordOf (c : Bool) (x : Day) : Int := yearsTo c x.y + inYear (leapOf c) x
theorem daysOf_pos (l : Bool) (m : Nat) : 28 ≤ daysOf l m := by
  unfold daysOf
  split
  · split <;> omega
  · split <;> omega
theorem in_year {c : Bool} {x : Day} (v : Valid (leapOf c) x) : 0 ≤ inYear (leapOf c) x ∧ inYear (leapOf c) x < yearLen c x.y := by
  have h1 := v.m1
  have h2 := v.m2
  have h3 := v.d1
  have h4 := v.d2
  have a := ahead12 c x.y
  have b := ahead_le (l := leapOf c x.y) (j := x.m) (k := 12) h2
  obtain ⟨k, ek⟩ : ∃ k, x.m = k + 1 := ⟨x.m - 1, by omega⟩
  have e : aheadK (leapOf c x.y) x.m = aheadK (leapOf c x.y) (x.m - 1) + daysOf (leapOf c x.y) x.m := by
    rw [ek]
    rfl
  unfold inYear
  omega
theorem dec_day {y : Int} {m d : Nat} {c : Bool} (h : ∀ l, daysOf l 12 = 31) : True := trivial
theorem day_on {c : Bool} {x : Day} (v : Valid (leapOf c) x) : Valid (leapOf c) (dayOn (leapOf c) x) ∧ ordOf c (dayOn (leapOf c) x) = ordOf c x + 1 := by
  obtain ⟨h1, h2, h3, h4⟩ := v
  unfold dayOn
  split
  · rename_i h
    refine ⟨⟨h1, h2, by show 1 ≤ x.d + 1; omega, by show x.d + 1 ≤ daysOf (leapOf c x.y) x.m; omega⟩, ?_⟩
    unfold ordOf inYear
    show yearsTo c x.y + ((aheadK (leapOf c x.y) (x.m - 1) : Int) + ((x.d + 1 : Nat) : Int) - 1) = _
    omega
  · rename_i h
    obtain ⟨k, ek⟩ : ∃ k, x.m = k + 1 := ⟨x.m - 1, by omega⟩
    have e : aheadK (leapOf c x.y) x.m = aheadK (leapOf c x.y) (x.m - 1) + daysOf (leapOf c x.y) x.m := by
      rw [ek]
      rfl
    split
    · rename_i hm
      refine ⟨⟨by show 1 ≤ x.m + 1; omega, by show x.m + 1 ≤ 12; omega, Nat.le_refl 1, ?_⟩, ?_⟩
      · show 1 ≤ daysOf (leapOf c x.y) (x.m + 1)
        have := daysOf_pos (leapOf c x.y) (x.m + 1)
        omega
      · unfold ordOf inYear
        show yearsTo c x.y + ((aheadK (leapOf c x.y) (x.m + 1 - 1) : Int) + ((1 : Nat) : Int) - 1) = _
        rw [Nat.add_sub_cancel, e]
        omega
    · rename_i hm
      have m12 : x.m = 12 := by omega
      refine ⟨⟨Nat.le_refl 1, by show 1 ≤ 12; omega, Nat.le_refl 1, ?_⟩, ?_⟩
      · show 1 ≤ daysOf (leapOf c (x.y + 1)) 1
        have := daysOf_pos (leapOf c (x.y + 1)) 1
        omega
      · have a := ahead12 c x.y
        have s := years_succ c x.y
        unfold ordOf inYear
        show yearsTo c (x.y + 1) + ((aheadK (leapOf c (x.y + 1)) (1 - 1) : Int) + ((1 : Nat) : Int) - 1) = _
        have z : aheadK (leapOf c (x.y + 1)) (1 - 1) = 0 := rfl
        rw [z]
        rw [m12] at e h4 h ⊢
        omega
theorem day_back {c : Bool} {x : Day} (v : Valid (leapOf c) x) : Valid (leapOf c) (dayBack (leapOf c) x) ∧ ordOf c (dayBack (leapOf c) x) = ordOf c x - 1 := by
  obtain ⟨h1, h2, h3, h4⟩ := v
  unfold dayBack
  split
  · rename_i h
    refine ⟨⟨h1, h2, by show 1 ≤ x.d - 1; omega, by show x.d - 1 ≤ daysOf (leapOf c x.y) x.m; omega⟩, ?_⟩
    unfold ordOf inYear
    show yearsTo c x.y + ((aheadK (leapOf c x.y) (x.m - 1) : Int) + ((x.d - 1 : Nat) : Int) - 1) = _
    omega
  · rename_i h
    split
    · rename_i hm
      obtain ⟨k, ek⟩ : ∃ k, x.m = k + 2 := ⟨x.m - 2, by omega⟩
      have e : aheadK (leapOf c x.y) (x.m - 1) = aheadK (leapOf c x.y) (x.m - 1 - 1) + daysOf (leapOf c x.y) (x.m - 1) := by
        rw [ek]
        rfl
      have p := daysOf_pos (leapOf c x.y) (x.m - 1)
      refine ⟨⟨by show 1 ≤ x.m - 1; omega, by show x.m - 1 ≤ 12; omega, by show 1 ≤ daysOf _ _; omega, Nat.le_refl _⟩, ?_⟩
      unfold ordOf inYear
      show yearsTo c x.y + ((aheadK (leapOf c x.y) (x.m - 1 - 1) : Int) + ((daysOf (leapOf c x.y) (x.m - 1) : Nat) : Int) - 1) = _
      omega
    · rename_i hm
      have m1 : x.m = 1 := by omega
      have d1 : x.d = 1 := by omega
      refine ⟨⟨by show 1 ≤ 12; omega, Nat.le_refl 12, by show 1 ≤ 31; omega, Nat.le_refl 31⟩, ?_⟩
      have a := ahead12 c (x.y - 1)
      have s := years_succ c (x.y - 1)
      rw [Int.sub_add_cancel] at s
      unfold ordOf inYear
      show yearsTo c (x.y - 1) + ((aheadK (leapOf c (x.y - 1)) (12 - 1) : Int) + ((31 : Nat) : Int) - 1) = _
      have z : aheadK (leapOf c (x.y - 1)) 12 = aheadK (leapOf c (x.y - 1)) (12 - 1) + 31 := rfl
      have z2 : aheadK (leapOf c x.y) (1 - 1) = 0 := rfl
      rw [m1, d1, z2]
      omega
theorem on_ord {c : Bool} : ∀ (n : Nat) {x : Day}, Valid (leapOf c) x → Valid (leapOf c) (on (leapOf c) n x) ∧ ordOf c (on (leapOf c) n x) = ordOf c x + n
  | 0, x, v => ⟨v, by show ordOf c x = _; omega⟩
  | n + 1, x, v => by
    obtain ⟨v1, e1⟩ := day_on v
    obtain ⟨v2, e2⟩ := on_ord n v1
    exact ⟨v2, by show ordOf c (on (leapOf c) n (dayOn (leapOf c) x)) = _; omega⟩
theorem back_ord {c : Bool} : ∀ (n : Nat) {x : Day}, Valid (leapOf c) x → Valid (leapOf c) (back (leapOf c) n x) ∧ ordOf c (back (leapOf c) n x) = ordOf c x - n
  | 0, x, v => ⟨v, by show ordOf c x = _; omega⟩
  | n + 1, x, v => by
    obtain ⟨v1, e1⟩ := day_back v
    obtain ⟨v2, e2⟩ := back_ord n v1
    exact ⟨v2, by show ordOf c (back (leapOf c) n (dayBack (leapOf c) x)) = _; omega⟩
theorem from_ord {c : Bool} (n : Int) {x : Day} (v : Valid (leapOf c) x) : Valid (leapOf c) (daysFrom (leapOf c) x n) ∧ ordOf c (daysFrom (leapOf c) x n) = ordOf c x + n := by
  unfold daysFrom
  split
  · obtain ⟨a, b⟩ := on_ord n.toNat v
    exact ⟨a, by rw [b]; omega⟩
  · obtain ⟨a, b⟩ := back_ord (-n).toNat v
    exact ⟨a, by rw [b]; omega⟩
theorem leap_cam : leapOf true = camLeap := rfl
theorem leap_true : leapOf false = trueLeap := rfl
/-- the true leap years are the cam's -/
theorem daysOf_cam (y : Int) (m : Nat) : daysOf (trueLeap y) m ≤ daysOf (camLeap y) m := by
  unfold daysOf
  split
  · unfold trueLeap camLeap
    cases h : (y % 4 == 0)
    · simp
    · simp
      split <;> omega
  · split <;> omega
end Cw

/-! Motion: whole turns, what hands show, first seconds, moments. -/
namespace Cw
open Mu07
theorem q_cross {q : Q} {A B : Int} (h : Nm q) (e : val q = (A : Rat) / (B : Rat)) (hB : 0 < B) : q.n * B = A * (q.d : Int) := by
  have x := h.dr
  have y := cast_ne (show B ≠ 0 by omega)
  unfold val at e
  have : (q.n : Rat) * (B : Rat) = (A : Rat) * ((q.d : Int) : Rat) := by grind
  exact_mod_cast this
theorem ediv_cross {a b A B : Int} (hb : 0 < b) (hB : 0 < B) (e : a * B = A * b) : a / b = A / B := by
  have h1 : a * B / (b * B) = a / b := Int.mul_ediv_mul_of_pos_left a b hB
  have h2 : A * b / (B * b) = A / B := Int.mul_ediv_mul_of_pos_left A B hb
  rw [← h1, e, Int.mul_comm b B, h2]
theorem floor_of {q : Q} {A B : Int} (h : Nm q) (e : val q = (A : Rat) / (B : Rat)) (hB : 0 < B) : q.floor = A / B := by
  have p : (0 : Int) < q.d := by have := h.pos; omega
  unfold Q.floor
  rw [Int.fdiv_eq_ediv_of_nonneg _ (by omega)]
  exact ediv_cross p hB (q_cross h e hB)
theorem ceil_of {q : Q} {A B : Int} (h : Nm q) (e : val q = (A : Rat) / (B : Rat)) (hB : 0 < B) : q.ceil = -((-A) / B) := by
  have p : (0 : Int) < q.d := by have := h.pos; omega
  unfold Q.ceil
  rw [Int.fdiv_eq_ediv_of_nonneg _ (by omega)]
  have c := q_cross h e hB
  rw [ediv_cross p hB (a := -q.n) (A := -A) (by rw [Int.neg_mul, Int.neg_mul, c])]
theorem trunc_of {q : Q} {A B : Int} (h : Nm q) (e : val q = (A : Rat) / (B : Rat)) (hB : 0 < B) : q.trunc = Int.tdiv A B := by
  have p : (0 : Int) < q.d := by have := h.pos; omega
  unfold Q.trunc
  have c := q_cross h e hB
  have h1 : (q.n * B).tdiv ((q.d : Int) * B) = q.n.tdiv (q.d : Int) := Int.mul_tdiv_mul_of_pos_left _ _ hB
  have h2 : (A * (q.d : Int)).tdiv (B * (q.d : Int)) = A.tdiv B := Int.mul_tdiv_mul_of_pos_left _ _ p
  rw [← h1, c, Int.mul_comm (q.d : Int) B, h2]
/-- what is turned, as the program has it: above, below -/
def turnedZ (s : State) : Nat → Goes → Nat → Int × Int
  | 0, _, _ => (0, 1)
  | _ + 1, .arbor i, t => ((s.rates.getD i (whole 0)).n * (t : Int), ((s.rates.getD i (whole 0)).d : Int))
  | k + 1, .star i, t => match s.works.stars[i]? with
    | some x => (turns s k x.by_ t, (x.steps : Int))
    | none => (0, 1)
theorem turnedZ_star {s : State} {k i t : Nat} {x : Star} (ex : s.works.stars[i]? = some x) : turnedZ s (k + 1) (.star i) t = (turns s k x.by_ t, (x.steps : Int)) := by
  show (match s.works.stars[i]? with | some x => (turns s k x.by_ t, (x.steps : Int)) | none => (0, 1)) = _
  rw [ex]
/-- how deep a mover stands -/
def Deep (s : State) : Nat → Goes → Prop
  | 0, _ => False
  | _ + 1, .arbor i => Nm (s.rates.getD i (whole 0))
  | k + 1, .star i => ∃ x, s.works.stars[i]? = some x ∧ 2 ≤ x.steps ∧ Deep s k x.by_
theorem turns_eq {s : State} : ∀ {k : Nat} {g : Goes} (t : Nat), Deep s k g → turns s k g t = Int.tdiv (turnedZ s k g t).1 (turnedZ s k g t).2
  | 0, _, _, h => h.elim
  | k + 1, .arbor i, t, h => by
    have p := Nm.pos h
    show ((s.rates.getD i (whole 0)).times (whole (t : Int))).trunc = Int.tdiv ((s.rates.getD i (whole 0)).n * (t : Int)) ((s.rates.getD i (whole 0)).d : Int)
    refine trunc_of (times_nm _ _) ?_ (by omega)
    rw [times_val h (whole_nm _), whole_val]
    unfold val
    rw [Rat.intCast_mul]
    grind
  | k + 1, .star i, t, h => by
    obtain ⟨x, ex, _, _⟩ := h
    show (match s.works.stars[i]? with | some x => Int.tdiv (turns s k x.by_ t) (x.steps : Int) | none => 0) = _
    rw [turnedZ_star ex, ex]
theorem turnedZ_pos {s : State} : ∀ {k : Nat} {g : Goes} (t : Nat), Deep s k g → 0 < (turnedZ s k g t).2
  | 0, _, _, h => h.elim
  | k + 1, .arbor i, t, h => by
    have p := Nm.pos h
    show (0 : Int) < ((s.rates.getD i (whole 0)).d : Int)
    omega
  | k + 1, .star i, t, h => by
    obtain ⟨x, ex, hx, _⟩ := h
    rw [turnedZ_star ex]
    show (0 : Int) < (x.steps : Int)
    omega
theorem turns_deep {s : State} : ∀ {k : Nat} {g : Goes} (t n : Nat), Deep s k g → k ≤ n → turns s n g t = turns s k g t
  | 0, _, _, _, h, _ => h.elim
  | k + 1, .arbor i, t, n, h, hn => by
    obtain ⟨m, rfl⟩ : ∃ m, n = m + 1 := ⟨n - 1, by omega⟩
    rfl
  | k + 1, .star i, t, n, h, hn => by
    obtain ⟨x, ex, _, hd⟩ := h
    obtain ⟨m, rfl⟩ : ∃ m, n = m + 1 := ⟨n - 1, by omega⟩
    show (match s.works.stars[i]? with | some x => Int.tdiv (turns s m x.by_ t) (x.steps : Int) | none => 0) = (match s.works.stars[i]? with | some x => Int.tdiv (turns s k x.by_ t) (x.steps : Int) | none => 0)
    rw [ex]
    dsimp only
    rw [turns_deep t m hd (by omega)]
theorem mean_deep {s : State} : ∀ {k : Nat} {g : Goes} (n : Nat), Deep s k g → k ≤ n → meanOf s n g = meanOf s k g
  | 0, _, _, h, _ => h.elim
  | k + 1, .arbor i, n, h, hn => by
    obtain ⟨m, rfl⟩ : ∃ m, n = m + 1 := ⟨n - 1, by omega⟩
    rfl
  | k + 1, .star i, n, h, hn => by
    obtain ⟨x, ex, _, hd⟩ := h
    obtain ⟨m, rfl⟩ : ∃ m, n = m + 1 := ⟨n - 1, by omega⟩
    show (match s.works.stars[i]? with | some x => (meanOf s m x.by_).over (whole (x.steps : Int)) | none => whole 0) = (match s.works.stars[i]? with | some x => (meanOf s k x.by_).over (whole (x.steps : Int)) | none => whole 0)
    rw [ex]
    dsimp only
    rw [mean_deep m hd (by omega)]
theorem reach_deep {s : State} : ∀ {k : Nat} {g : Goes} (n r : Nat), Deep s k g → k ≤ n → reaches s n g r = reaches s k g r
  | 0, _, _, _, h, _ => h.elim
  | k + 1, .arbor i, n, r, h, hn => by
    obtain ⟨m, rfl⟩ : ∃ m, n = m + 1 := ⟨n - 1, by omega⟩
    rfl
  | k + 1, .star i, n, r, h, hn => by
    obtain ⟨x, ex, _, hd⟩ := h
    obtain ⟨m, rfl⟩ : ∃ m, n = m + 1 := ⟨n - 1, by omega⟩
    show (match s.works.stars[i]? with | some x => reaches s m x.by_ (r * x.steps) | none => none) = (match s.works.stars[i]? with | some x => reaches s k x.by_ (r * x.steps) | none => none)
    rw [ex]
    dsimp only
    exact reach_deep m _ hd (by omega)
theorem mean_nm {s : State} : ∀ {k : Nat} {g : Goes}, Deep s k g → Nm (meanOf s k g)
  | 0, _, h => h.elim
  | k + 1, .arbor i, h => h
  | k + 1, .star i, h => by
    obtain ⟨x, ex, _, hd⟩ := h
    show Nm (match s.works.stars[i]? with | some x => (meanOf s k x.by_).over (whole (x.steps : Int)) | none => whole 0)
    rw [ex]
    exact over_nm _ _
/-- a star's mean rate as the program has it -/
theorem mean_star {q : Q} (h : Nm q) {k : Nat} (hk : 1 ≤ k) : q.over (whole (k : Int)) = frac q.n ((q.d : Int) * (k : Int)) := by
  refine (over_nm _ _).ext (frac_nm _ _) ?_
  have p := h.dr
  have c := cast_ne (show (k : Int) ≠ 0 by omega)
  rw [over_val h (whole_nm _), whole_val, frac_val, Rat.intCast_mul]
  unfold val
  grind
/-! ### what is shown -/
theorem shows_eq {s : State} {h t k : Nat} {x : Hand} (hx : s.works.hands[h]? = some x) (hd : Deep s k x.on) (hk : k ≤ 8) : shows s h t = ((x.first : Int) + s.set.getD h 0 + (x.marks : Int) * (turnedZ s k x.on t).1 / (turnedZ s k x.on t).2) % (x.marks : Int) := by
  unfold shows
  rw [hx]
  dsimp only
  have tv : Nm (turned s x.on t) ∧ val (turned s x.on t) = ((turnedZ s k x.on t).1 : Rat) / ((turnedZ s k x.on t).2 : Rat) := by
    cases k with
    | zero => exact hd.elim
    | succ k =>
      cases hg : x.on with
      | arbor i =>
        rw [hg] at hd
        have hn : Nm (s.rates.getD i (whole 0)) := hd
        refine ⟨times_nm _ _, ?_⟩
        show val ((s.rates.getD i (whole 0)).times (whole (t : Int))) = (((s.rates.getD i (whole 0)).n * (t : Int) : Int) : Rat) / (((s.rates.getD i (whole 0)).d : Int) : Rat)
        rw [times_val hn (whole_nm _), whole_val]
        unfold val
        rw [Rat.intCast_mul]
        grind
      | star i =>
        rw [hg] at hd
        obtain ⟨y, ey, hy, hd2⟩ := hd
        have e1 : turned s (.star i) t = frac (wholeTurns s y.by_ t) (y.steps : Int) := by
          show (match s.works.stars[i]? with | some x => frac (wholeTurns s x.by_ t) (x.steps : Int) | none => whole 0) = _
          rw [ey]
        rw [e1, turnedZ_star ey]
        refine ⟨frac_nm _ _, ?_⟩
        rw [frac_val]
        unfold wholeTurns
        rw [turns_deep t DEEP hd2 (by show k ≤ 8; omega)]
  obtain ⟨tn, tv⟩ := tv
  have bp := turnedZ_pos t hd
  generalize (turnedZ s k x.on t).1 = a at *
  generalize (turnedZ s k x.on t).2 = b at *
  have bn := cast_ne (show b ≠ 0 by omega)
  congr 1
  have fl := floor_of (q := (whole ((x.first : Int) + s.set.getD h 0)).plus ((turned s x.on t).times (whole (x.marks : Int)))) (A := ((x.first : Int) + s.set.getD h 0) * b + (x.marks : Int) * a) (B := b) (plus_nm _ _) (by
    rw [plus_val (whole_nm _) (times_nm _ _), times_val tn (whole_nm _), whole_val, whole_val, tv]
    simp only [Rat.intCast_add, Rat.intCast_mul]
    grind) bp
  rw [fl, Int.add_comm, Int.add_mul_ediv_right _ _ (by omega), Int.add_comm]
/-! ### the first second of so many whole turns -/
/-- down to the arbor: its place, and how many turns of it are wanted -/
def downTo (s : State) : Nat → Goes → Nat → Nat × Nat
  | 0, _, r => (0, r)
  | _ + 1, .arbor i, r => (i, r)
  | k + 1, .star i, r => match s.works.stars[i]? with
    | some x => downTo s k x.by_ (r * x.steps)
    | none => (0, r)
theorem reach_eq {s : State} : ∀ {k : Nat} {g : Goes} (r : Nat), Deep s k g → reaches s k g r = if (s.rates.getD (downTo s k g r).1 (whole 0)).n ≤ 0 then none else some (-((-((downTo s k g r).2 : Int) * ((s.rates.getD (downTo s k g r).1 (whole 0)).d : Int)) / (s.rates.getD (downTo s k g r).1 (whole 0)).n)).toNat
  | 0, _, _, h => h.elim
  | k + 1, .arbor i, r, h => by
    show (if (s.rates.getD i (whole 0)).n ≤ 0 then none else some ((whole (r : Int)).over (s.rates.getD i (whole 0))).ceil.toNat) = (if (s.rates.getD i (whole 0)).n ≤ 0 then none else some (-((-(r : Int) * ((s.rates.getD i (whole 0)).d : Int)) / (s.rates.getD i (whole 0)).n)).toNat)
    by_cases c : (s.rates.getD i (whole 0)).n ≤ 0
    · rw [if_pos c, if_pos c]
    · rw [if_neg c, if_neg c]
      have hn : Nm (s.rates.getD i (whole 0)) := h
      have pn := cast_ne (show (s.rates.getD i (whole 0)).n ≠ 0 by omega)
      have pd := hn.dr
      rw [ceil_of (A := (r : Int) * ((s.rates.getD i (whole 0)).d : Int)) (B := (s.rates.getD i (whole 0)).n) (over_nm _ _) (by
        rw [over_val (whole_nm _) hn, whole_val, Rat.intCast_mul]
        unfold val
        grind) (by omega), Int.neg_mul]
  | k + 1, .star i, r, h => by
    obtain ⟨x, ex, _, hd⟩ := h
    have e1 : reaches s (k + 1) (.star i) r = reaches s k x.by_ (r * x.steps) := by
      show (match s.works.stars[i]? with | some x => reaches s k x.by_ (r * x.steps) | none => none) = _
      rw [ex]
    have e2 : downTo s (k + 1) (.star i) r = downTo s k x.by_ (r * x.steps) := by
      show (match s.works.stars[i]? with | some x => downTo s k x.by_ (r * x.steps) | none => (0, r)) = _
      rw [ex]
    rw [e1, e2]
    exact reach_eq _ hd
theorem pos_left {a b : Int} (h : 0 < a * b) (hb : 0 < b) : 0 < a := Classical.byContradiction fun z => by
  have : a * b ≤ 0 * b := Int.mul_le_mul_of_nonneg_right (by omega) (by omega)
  omega
/-- a mover goes forward if its mean rate is above 0 -/
theorem mean_sign {s : State} : ∀ {k : Nat} {g : Goes} (r : Nat), Deep s k g → (0 < (meanOf s k g).n ↔ 0 < (s.rates.getD (downTo s k g r).1 (whole 0)).n)
  | 0, _, _, h => h.elim
  | k + 1, .arbor i, r, h => Iff.rfl
  | k + 1, .star i, r, h => by
    obtain ⟨x, ex, hx, hd⟩ := h
    have e1 : meanOf s (k + 1) (.star i) = (meanOf s k x.by_).over (whole (x.steps : Int)) := by
      show (match s.works.stars[i]? with | some x => (meanOf s k x.by_).over (whole (x.steps : Int)) | none => whole 0) = _
      rw [ex]
    have e2 : downTo s (k + 1) (.star i) r = downTo s k x.by_ (r * x.steps) := by
      show (match s.works.stars[i]? with | some x => downTo s k x.by_ (r * x.steps) | none => (0, r)) = _
      rw [ex]
    rw [e1, e2, ← mean_sign (r * x.steps) hd]
    have nm := mean_nm hd
    generalize meanOf s k x.by_ = q at *
    have nq := over_nm q (whole (x.steps : Int))
    have c := q_cross (q := q.over (whole (x.steps : Int))) (A := q.n) (B := (q.d : Int) * (x.steps : Int)) nq (by
      rw [mean_star nm (by omega), frac_val]) (by
        have := nm.pos
        exact Int.mul_pos (by omega) (by omega))
    generalize q.over (whole (x.steps : Int)) = q' at *
    have p1 : (0 : Int) < (q.d : Int) * (x.steps : Int) := by
      have := nm.pos
      exact Int.mul_pos (by omega) (by omega)
    have p2 : (0 : Int) < (q'.d : Int) := by have := nq.pos; omega
    constructor
    · intro z
      have : 0 < q.n * (q'.d : Int) := by rw [← c]; exact Int.mul_pos z p1
      exact pos_left this p2
    · intro z
      have : 0 < q'.n * ((q.d : Int) * (x.steps : Int)) := by rw [c]; exact Int.mul_pos z p2
      exact pos_left this p1
/-! ### the next moment -/
theorem rat_next {N W S0 S1 R D : Rat} (h1 : S1 ≠ 0) (h2 : R ≠ 0) (h3 : D ≠ 0) : N + (W - (S0 / S1 + R / D * N)) / (R / D) = (W * S1 - S0) * D / (S1 * R) := by
  have e1 : (W - (S0 / S1 + R / D * N)) / (R / D) = (W - (S0 / S1 + R / D * N)) * (D / R) := by grind
  rw [e1]
  grind
/-- the program's next_whole -/
def nextZ (s0 s1 r0 r1 now : Int) : Int × Int :=
  let above := s0 * r1 + r0 * now * s1
  let below := s1 * r1
  let w := if 0 < r0 then above / below + 1 else -((-above) / below) - 1
  ((w * s1 - s0) * r1, s1 * r0)
theorem next_eq {a r : Q} {s0 s1 now : Int} (ha : Nm a) (hr : Nm r) (h1 : 0 < s1) (hv : val a = (s0 : Rat) / (s1 : Rat) + val r * (now : Rat)) (h0 : r.n ≠ 0) :
    ∃ t, nextWhole a r = some t ∧ (whole now).plus t = frac (nextZ s0 s1 r.n r.d now).1 (nextZ s0 s1 r.n r.d now).2 := by
  have hz : r.isZero = false := by
    unfold Q.isZero
    simpa using h0
  have pd := hr.dr
  have dp : (0 : Int) < r.d := by have := hr.pos; omega
  have rn := cast_ne h0
  have s1n := cast_ne (show s1 ≠ 0 by omega)
  have av : val a = ((s0 * (r.d : Int) + r.n * now * s1 : Int) : Rat) / ((s1 * (r.d : Int) : Int) : Rat) := by
    rw [hv]
    unfold val
    simp only [Rat.intCast_add, Rat.intCast_mul]
    grind
  have bp : 0 < s1 * (r.d : Int) := Int.mul_pos h1 dp
  have fl := floor_of ha av bp
  have ce := ceil_of ha av bp
  unfold nextWhole
  rw [if_neg (by rw [hz]; decide)]
  refine ⟨_, rfl, ?_⟩
  dsimp only [nextZ]
  rw [fl, ce]
  generalize hw : (if 0 < r.n then (s0 * (r.d : Int) + r.n * now * s1) / (s1 * (r.d : Int)) + 1 else -(-(s0 * (r.d : Int) + r.n * now * s1) / (s1 * (r.d : Int))) - 1) = w
  refine (plus_nm _ _).ext (frac_nm _ _) ?_
  rw [plus_val (whole_nm _) (over_nm _ _), over_val (less_nm _ _) hr, less_val (whole_nm _) ha, whole_val, whole_val, hv, frac_val]
  simp only [Rat.intCast_mul, Rat.intCast_sub]
  unfold val
  exact rat_next s1n rn pd
end Cw

/-! The walk's own words: a def of the text, a class of the text, what evaluates to what. -/
namespace Cw
open PySem PySem.Spec PyProof.Rows L2 Evl
/-- the i-th statement of the program -/
def top (i : Nat) : Stmt := PySem.Challenge.pw_clockworks_s01_answers.main.body.getD i (.Pass ⟨0, 0, 0, 0⟩)
/-- a def of the text, as it stands behind the top -/
structure Fx (K : PySem.W.Frag) (mg : Str → Option Value) (x : Str) (st : Stmt) (ps : List Str) where
  f : Addr
  fd : FuncData
  F : Fun K x x st f fd
  g : mg x = some (.ref f)
  b : Binds K fd ps []
/-- a class of the text with its __init__ -/
structure Clx (K : PySem.W.Frag) (mg : Str → Option Value) (x q : Str) (st : Stmt) (ps : List Str) (attrs : List Str) where
  C : Addr
  f : Addr
  fd : FuncData
  g : mg x = some (.ref C)
  cl : Cls K C
  n : ∀ a ∈ attrs, NoAttr K C a
  F : Fun K "__init__" q st f fd
  mkC : Mk K C f
  b : Binds K fd ps []
/-! ### rules that name K: within a comprehension -/
theorem ix_listK {X : Cx} {K : PySem.W.Frag} (h : X.K = K) : IxR X (rIxL K) := by
  subst h
  exact ix_list
theorem ix_tupK {X : Cx} {K : PySem.W.Frag} (h : X.K = K) : IxR X (rIxT K) := by
  subst h
  exact ix_tup
theorem call_lenK {X : Cx} {K : PySem.W.Frag} (h : X.K = K) : CallR X (.builtin "len") (rLenS K) := by
  subst h
  exact call_len_seq
theorem pe_fldK {X : Cx} {K : PySem.W.Frag} {e : Expr} {f : Str} {pos : Pos} {ta : TE} (h : X.K = K) (he : PE X e ta) (hb : attributeBase e f X.env (eval e X.env) = eval e X.env) : PE X (.Attribute e f pos) (tFld K ta f) := by
  subst h
  exact pe_fld he hb
/-! ### field lists -/
theorem lk_here {k : Str} {v : V} {r : List (Str × V)} : List.lookup k ((k, v) :: r) = some v := by
  have e : (k == k) = true := beq_self_eq_true k
  simp only [List.lookup, e]
theorem lk_past {k g : Str} {v : V} {r : List (Str × V)} (h : (k == g) = false) : List.lookup k ((g, v) :: r) = List.lookup k r := by
  simp only [List.lookup, h]
theorem put_here {f : Str} {v x : V} {r : List (Str × V)} : putF f v ((f, x) :: r) = (f, v) :: r := if_pos rfl
theorem put_past {f g : Str} {v x : V} {r : List (Str × V)} (h : ¬ g = f) : putF f v ((g, x) :: r) = (g, x) :: putF f v r := if_neg h
/-- p is an instance whose attribute f is v -/
def Fd (K : PySem.W.Frag) (H : Hp) (p : Addr) (f : Str) (v : V) : Prop := ∃ C dx fs, H p = some (.ins C dx fs) ∧ Cls K C ∧ NoAttr K C f ∧ fs.lookup f = some v
theorem Fd.ex {K : PySem.W.Frag} {H H' : Hp} {p : Addr} {f : Str} {v : V} (h : Fd K H p f v) (e : Ex H H') : Fd K H' p f v := by
  obtain ⟨C, dx, fs, a, b, c, d⟩ := h
  exact ⟨C, dx, fs, e _ _ a, b, c, d⟩
/-! ### promises of defs that change nothing -/
/-- a value -/
def spV (pre : List V → Hp → V → Prop) : Sp := fun vs H Q _ => ∃ z, pre vs H z ∧ ∀ H2, Ex H H2 → Q z H2
/-- a new list -/
def spL (pre : List V → Hp → List V → Prop) : Sp := fun vs H Q _ => ∃ xs, pre vs H xs ∧ ∀ p H2, H p = none → Ex H H2 → H2 p = some (.lst xs) → Q (.ref p) H2
/-- a new tuple -/
def spU (pre : List V → Hp → List V → Prop) : Sp := fun vs H Q _ => ∃ xs, pre vs H xs ∧ ∀ p H2, H p = none → Ex H H2 → H2 p = some (.tup xs) → Q (.ref p) H2
section
variable {K : PySem.W.Frag} {σ : L2.St} {H H' : Hp} {ta tb te tx : TE} {t u : TT} {x y z v : V} {r : R2} {D : Ends} {tu tw tz : TS}
theorem ev_fld {p : Addr} {f : Str} (ha : Ev ta σ H (.ref p)) (h : Fd K H p f v) : Ev (tFld K ta f) σ H v := fun H1 e Q q =>
  ha H1 e _ fun H2 e2 => by
    obtain ⟨C, dx, fs, a, b, c, d⟩ := h.ex (e.trans e2)
    exact ⟨p, C, dx, fs, v, rfl, a, b, c, d, q H2 e2⟩
theorem rv_isN : RV (fun x y H Q => y = .non ∧ Q (.bl (decide (x = .non))) H) x .non H (.bl (decide (x = .non))) := fun H1 _ _ q => ⟨rfl, q H1 (Ex.refl H1)⟩
theorem rv_notN : RV (fun x y H Q => y = .non ∧ Q (.bl (!decide (x = .non))) H) x .non H (.bl (!decide (x = .non))) := fun H1 _ _ q => ⟨rfl, q H1 (Ex.refl H1)⟩
theorem rv_eqI {i j : Int} : RV rEq (.int i) (.int j) H (.bl (i == j)) := fun H1 e Q q => by
  have h := rv_eq (x := .int i) (y := .int j) (H := H) rfl H1 e Q
  rw [dec_int] at h
  exact h q
theorem rv_neI {i j : Int} : RV rNe (.int i) (.int j) H (.bl (!(i == j))) := fun H1 e Q q => by
  have h := rv_ne (x := .int i) (y := .int j) (H := H) rfl H1 e Q
  rw [dec_int] at h
  exact h q
/-- two ints: an operator that asks for nothing -/
theorem ev_i {i j : Int} {g : Int → Int → V} (ha : Ev ta σ H (.int i)) (hb : Ev tb σ H (.int j)) : Ev (tOp (rI0 g) ta tb) σ H (g i j) := ev_op ha hb rv_I0
theorem ev_iC {i j : Int} {C : Int → Int → Prop} {g : Int → Int → V} (ha : Ev ta σ H (.int i)) (hb : Ev tb σ H (.int j)) (hc : C i j) : Ev (tOp (rI C g) ta tb) σ H (g i j) := ev_op ha hb (rv_I hc)
theorem ev_eqI {i j : Int} (ha : Ev ta σ H (.int i)) (hb : Ev tb σ H (.int j)) : Ev (tOp rEq ta tb) σ H (.bl (i == j)) := ev_op ha hb rv_eqI
theorem ev_neI {i j : Int} (ha : Ev ta σ H (.int i)) (hb : Ev tb σ H (.int j)) : Ev (tOp rNe ta tb) σ H (.bl (!(i == j))) := ev_op ha hb rv_neI
theorem ev_neg {i : Int} (ha : Ev ta σ H (.int i)) : Ev (tUn (rU fun i => .int (-i)) ta) σ H (.int (-i)) := ev_un ha ru_neg
theorem ev_ixL {p : Addr} {xs : List V} {j : Nat} {i : Int} (ha : Ev ta σ H (.ref p)) (hb : Ev tb σ H (.int i)) (h : SqL K H p xs) (ei : i = (j : Int)) (hj : xs[j]? = some v) : Ev (tOp (rIxL K) ta tb) σ H v := by
  subst ei
  exact ev_op ha hb (rv_ixL h (atI_nat hj))
theorem ev_ixT {p : Addr} {xs : List V} {j : Nat} {i : Int} (ha : Ev ta σ H (.ref p)) (hb : Ev tb σ H (.int i)) (h : SqT K H p xs) (ei : i = (j : Int)) (hj : xs[j]? = some v) : Ev (tOp (rIxT K) ta tb) σ H v := by
  subst ei
  exact ev_op ha hb (rv_ixT h (atI_nat hj))
/-- the sub-expression is a new tuple whose item is read: f(x)[0] -/
theorem ev_ixU {xs : List V} {j : Nat} {i : Int} (ha : EvU ta σ H xs) (hb : ∀ H1, Ex H H1 → Ev tb σ H1 (.int i)) (ei : i = (j : Int)) (hj : xs[j]? = some v) : Ev (tOp (rIxT K) ta tb) σ H v := fun H1 e Q q =>
  ha H1 e _ fun p H2 hp e2 h2 => hb H2 (e.trans e2) H2 (Ex.refl H2) _ fun H3 e3 => by
    subst ei
    exact rv_ixT (SqT.of (e3 _ _ h2)) (atI_nat hj) H3 (Ex.refl H3) Q fun H4 e4 => q H4 ((e2.trans e3).trans e4)
theorem sv_of {pre : List V → Hp → V → Prop} {vs : List V} (h : ∀ H1, Ex H H1 → pre vs H1 z) : SpV (spV pre) vs H z := fun H1 e Q q _ => ⟨z, h H1 e, q⟩
theorem sl_of {pre : List V → Hp → List V → Prop} {vs xs : List V} (h : ∀ H1, Ex H H1 → pre vs H1 xs) : SpL (spL pre) vs H xs := fun H1 e Q q _ => ⟨xs, h H1 e, fun p H2 a b c => q p H2 a b c⟩
def SpU (sp : Sp) (vs : List V) (H : Hp) (xs : List V) : Prop := ∀ H1, Ex H H1 → ∀ Q : VK, (∀ p H2, H1 p = none → Ex H1 H2 → H2 p = some (.tup xs) → Q (.ref p) H2) → ∀ E : XK, sp vs H1 Q E
theorem su_of {pre : List V → Hp → List V → Prop} {vs xs : List V} (h : ∀ H1, Ex H H1 → pre vs H1 xs) : SpU (spU pre) vs H xs := fun H1 e Q q _ => ⟨xs, h H1 e, fun p H2 a b c => q p H2 a b c⟩
theorem eu_call {sp : Sp} {dvs vs xs : List V} {E : XK} {ta : TA} (h : EvA ta σ H vs) (hs : SpU sp (vs ++ dvs) H xs) : EvU (tCall sp dvs E ta) σ H xs := fun H1 e Q q =>
  h H1 e _ fun H2 e2 => hs H2 (e.trans e2) Q (fun p H3 hp e3 h3 => q p H3 (fresh_back e2 hp) (e2.trans e3) h3) E
theorem EvU.mono {xs : List V} (e : Ex H H') (h : EvU te σ H xs) : EvU te σ H' xs := fun H1 a Q q => h H1 (e.trans a) Q q
/-- return of a call that gives a new tuple or list, a value -/
theorem s_retV {k : VK} (h : Ev te σ H v) (hk : ∀ H1, Ex H H1 → k v H1) : tRet te { D with rt := k } σ H := h H (Ex.refl H) _ hk
theorem ev_abs {i : Int} (ha : Ev ta σ H (.int i)) : Ev (tCB (fun xs H Q => ∃ i, xs = [.int i] ∧ Q (.int (if i < 0 then -i else i)) H) (tCons ta tNil)) σ H (.int (if i < 0 then -i else i)) := fun H1 e Q q =>
  ha H1 e _ fun H2 e2 => ⟨i, rfl, q H2 e2⟩
theorem abs_int (i : Int) : (if i < 0 then -i else i) = ((i.natAbs : Nat) : Int) := by omega
theorem ev_lenT {p : Addr} {xs : List V} (ha : Ev ta σ H (.ref p)) (h : SqT K H p xs) : Ev (tCB (rLenS K) (tCons ta tNil)) σ H (.int (xs.length : Int)) := fun H1 e Q q =>
  ha H1 e _ fun H2 e2 => ⟨p, xs, rfl, Or.inr (ex_t (e.trans e2) h), q H2 e2⟩
end
end Cw

/-! More words for readings: comprehensions, lists that need not be new. -/
namespace Cw
open PySem PySem.Spec PyProof.Rows L2 Evl
section
variable {K : PySem.W.Frag} {σ : L2.St} {H H' : Hp} {ta tb te tx : TE} {t u : TT} {x y z v : V} {r : R2} {D : Ends} {tu tw tz : TS}
theorem range_getD (xs : List V) : (List.range xs.length).map (fun i => xs.getD i .non) = xs := by
  refine List.ext_getElem (by simp) fun i h1 h2 => ?_
  rw [List.getElem_map, List.getElem_range, List.getD_eq_getElem?_getD, List.getElem?_eq_getElem h2]
  rfl
theorem given_is (xs : List V) (p : V → Bool) (g : V → V) : given xs.length (fun i => p (xs.getD i .non)) (fun i => g (xs.getD i .non)) = (xs.filter p).map g := by
  unfold given
  have h := range_getD xs
  have e1 : (List.range xs.length).filter (fun i => p (xs.getD i .non)) = (List.range xs.length).filter (p ∘ fun i => xs.getD i .non) := rfl
  have e2 : ∀ l : List Nat, l.map (fun i => g (xs.getD i .non)) = (l.map fun i => xs.getD i .non).map g := fun l => by rw [List.map_map]; rfl
  rw [e1, e2, ← List.filter_map, h]
theorem getD_of {xs : List V} {i : Nat} (h : xs[i]? = some x) : xs.getD i .non = x := by
  rw [List.getD_eq_getElem?_getD, h]
  rfl
theorem et_yes : EvT tYes σ H true := fun H1 _ _ q => q H1 (Ex.refl H1)
/-- [e for x in xs if t] over a list that stands -/
theorem el_comp {a : Addr} {xs : List V} {tl : TE} {j : Nat} {vs : List Nat} (p : V → Bool) (g : V → V) (h : Ev tl σ H (.ref a)) (hx : SqL K H a xs) (hz : xs.length ≤ 40000) (hw : ∀ x, wipe ((wipe σ vs).set j (some x)) vs = wipe σ vs)
    (ht : ∀ (x : V) H1, Ex H H1 → x ∈ xs → EvT t ((wipe σ vs).set j (some x)) H1 (p x)) (he : ∀ (x : V) H1, Ex H H1 → x ∈ xs → p x = true → Ev te ((wipe σ vs).set j (some x)) H1 (g x)) :
    EvL (tLc (iList K tl) (gName j) t te vs) σ H ((xs.filter p).map g) := by
  rw [← given_is]
  refine el_lcL _ _ h hx hz hw (fun i x H1 e hi => ?_) (fun i x H1 e hi hp => ?_)
  · rw [getD_of hi]
    exact ht x H1 e (List.mem_of_getElem? hi)
  · rw [getD_of hi] at hp ⊢
    exact he x H1 e (List.mem_of_getElem? hi) hp
theorem el_map {a : Addr} {xs : List V} {tl : TE} {j : Nat} {vs : List Nat} (g : V → V) (h : Ev tl σ H (.ref a)) (hx : SqL K H a xs) (hz : xs.length ≤ 40000) (hw : ∀ x, wipe ((wipe σ vs).set j (some x)) vs = wipe σ vs)
    (he : ∀ (x : V) H1, Ex H H1 → x ∈ xs → Ev te ((wipe σ vs).set j (some x)) H1 (g x)) : EvL (tLc (iList K tl) (gName j) tYes te vs) σ H (xs.map g) := by
  have q := el_comp (K := K) (te := te) (t := tYes) (fun _ => true) g h hx hz hw (fun _ _ _ _ => et_yes) (fun x H1 e m _ => he x H1 e m)
  rwa [List.filter_eq_self.mpr (fun _ _ => rfl)] at q
/-- .. over a new list -/
theorem el_compN {xs : List V} {tl : TE} {j : Nat} {vs : List Nat} (p : V → Bool) (g : V → V) (h : EvL tl σ H xs) (hz : xs.length ≤ 40000) (hw : ∀ x, wipe ((wipe σ vs).set j (some x)) vs = wipe σ vs)
    (ht : ∀ (x : V) H1, Ex H H1 → x ∈ xs → EvT t ((wipe σ vs).set j (some x)) H1 (p x)) (he : ∀ (x : V) H1, Ex H H1 → x ∈ xs → p x = true → Ev te ((wipe σ vs).set j (some x)) H1 (g x)) :
    EvL (tLc (iList K tl) (gName j) t te vs) σ H ((xs.filter p).map g) := by
  rw [← given_is]
  refine el_lcNL _ _ h hz hw (fun i x H1 e hi => ?_) (fun i x H1 e hi hp => ?_)
  · rw [getD_of hi]
    exact ht x H1 e (List.mem_of_getElem? hi)
  · rw [getD_of hi] at hp ⊢
    exact he x H1 e (List.mem_of_getElem? hi) hp
theorem el_mapN {xs : List V} {tl : TE} {j : Nat} {vs : List Nat} (g : V → V) (h : EvL tl σ H xs) (hz : xs.length ≤ 40000) (hw : ∀ x, wipe ((wipe σ vs).set j (some x)) vs = wipe σ vs)
    (he : ∀ (x : V) H1, Ex H H1 → x ∈ xs → Ev te ((wipe σ vs).set j (some x)) H1 (g x)) : EvL (tLc (iList K tl) (gName j) tYes te vs) σ H (xs.map g) := by
  have q := el_compN (K := K) (te := te) (t := tYes) (fun _ => true) g h hz hw (fun _ _ _ _ => et_yes) (fun x H1 e m _ => he x H1 e m)
  rwa [List.filter_eq_self.mpr (fun _ _ => rfl)] at q
/-- a list, new or not -/
def EvS (te : TE) (σ : L2.St) (H : Hp) (xs : List V) : Prop := ∀ H1, Ex H H1 → ∀ Q : VK, (∀ p H2, Ex H1 H2 → H2 p = some (.lst xs) → Q (.ref p) H2) → te σ H1 Q
def spS (pre : List V → Hp → List V → Prop) : Sp := fun vs H Q _ => ∃ xs, pre vs H xs ∧ ∀ p H2, Ex H H2 → H2 p = some (.lst xs) → Q (.ref p) H2
theorem es_call {pre : List V → Hp → List V → Prop} {dvs vs xs : List V} {E : XK} {ta : TA} (h : EvA ta σ H vs) (hs : ∀ H1, Ex H H1 → pre (vs ++ dvs) H1 xs) : EvS (tCall (spS pre) dvs E ta) σ H xs := fun H1 e Q q =>
  h H1 e _ fun H2 e2 => ⟨xs, hs H2 (e.trans e2), fun p H3 e3 h3 => q p H3 (e2.trans e3) h3⟩
theorem EvL.es {xs : List V} (h : EvL te σ H xs) : EvS te σ H xs := fun H1 e Q q => h H1 e Q fun p H2 _ e2 h2 => q p H2 e2 h2
theorem Ev.es {p : Addr} {xs : List V} (h : Ev te σ H (.ref p)) (hp : H p = some (.lst xs)) : EvS te σ H xs := fun H1 e Q q => h H1 e Q fun H2 e2 => q p H2 e2 (e2 _ _ (e _ _ hp))
theorem s_retS {xs : List V} (h : EvS te σ H xs) (k : ∀ p H1, Ex H H1 → H1 p = some (.lst xs) → D.rt (.ref p) H1) : tRet te D σ H := h H (Ex.refl H) _ k
theorem s_asgS {i : Nat} {xs : List V} (h : EvS te σ H xs) (k : ∀ p H1, Ex H H1 → H1 p = some (.lst xs) → D.nx (σ.set i (some (.ref p))) H1) : tAsg te (gName i) D σ H := h H (Ex.refl H) _ k
theorem q_asgS {i : Nat} {xs : List V} (h : EvS te σ H xs) (k : ∀ p H1, Ex H H1 → H1 p = some (.lst xs) → tz D (σ.set i (some (.ref p))) H1) : tSeq (tAsg te (gName i)) tz D σ H := h H (Ex.refl H) _ k
/-- xs[i] = e, e a list -/
theorem s_setS {l : Addr} {xs ys : List V} {j : Nat} (hl : H l = some (.lst xs)) (h : EvS te σ H ys) (ho : ∀ H1, Ex H H1 → Ev ta σ H1 (.ref l)) (hi : ∀ H1, Ex H H1 → Ev tb σ H1 (.int (j : Int))) (hj : j < xs.length) (k : ∀ p H1, Ex H H1 → H1 p = some (.lst ys) → D.nx σ (upd H1 l (.lst (xs.set j (.ref p))))) :
    tAsg te (gSub ta tb rSetL) D σ H := h H (Ex.refl H) _ fun p H1 e1 hp => ho H1 e1 H1 (Ex.refl H1) _ fun H2 e2 => hi H2 (e1.trans e2) H2 (Ex.refl H2) _ fun H3 e3 =>
  ⟨l, xs, (j : Int), j, rfl, rfl, ((e1.trans e2).trans e3) l _ hl, ixN_nat hj, k p H3 ((e1.trans e2).trans e3) (e3 _ _ (e2 _ _ hp))⟩
end
/-! ### lists of ints compared -/
def pdI (ns : List Int) : PyData := .list (ns.map PyData.int)
section
variable {K : PySem.W.Frag} {σ : L2.St} {H H' : Hp} {ta tb te tx : TE}
theorem dpAll_ints (K : PySem.W.Frag) (H : Hp) : ∀ ns : List Int, DpAll K H (ns.map V.int) (ns.map PyData.int)
  | [] => .nil
  | n :: r => .cons (.int n) (dpAll_ints K H r)
theorem dp_ints {p : Addr} {ns : List Int} (h : SqL K H p (ns.map V.int)) : Dp K H (.ref p) (pdI ns) := .lst h (dpAll_ints K H ns)
theorem lay_ints : ∀ ns : List Int, PyData.canLayAll0 (ns.map PyData.int) = true
  | [] => by simp [PyData.canLayAll0]
  | n :: r => by
    rw [List.map_cons, PyData.canLayAll0, lay_ints r]
    simp [PyData.canLay0]
theorem depth_ints : ∀ ns : List Int, PyData.depthAll (ns.map PyData.int) = 0
  | [] => by simp [PyData.depthAll]
  | n :: r => by
    rw [List.map_cons, PyData.depthAll, depth_ints r]
    simp [PyData.depth]
theorem shaped_ints (ns : List Int) : SeqAt.shaped (pdI ns) = true := by
  unfold SeqAt.shaped pdI
  rw [PyData.canLay0, lay_ints, PyData.depth, depth_ints]
  rfl
theorem eqvAll_ints : ∀ a b : List Int, PyData.eqvAll (a.map PyData.int) (b.map PyData.int) = decide (a = b)
  | [], [] => by simp [PyData.eqvAll]
  | [], _ :: _ => by simp [PyData.eqvAll]
  | _ :: _, [] => by simp [PyData.eqvAll]
  | x :: a, y :: b => by
    rw [List.map_cons, List.map_cons, PyData.eqvAll, eqvAll_ints a b, PyData.eqv]
    by_cases h : x = y <;> by_cases h2 : a = b <;> simp [h, h2]
theorem eqv_ints (a b : List Int) : PyData.eqv (pdI a) (pdI b) = decide (a = b) := by
  unfold pdI
  rw [PyData.eqv]
  exact eqvAll_ints a b
theorem rv_eqL {p q : Addr} {a b : List Int} (hp : SqL K H p (a.map V.int)) (hq : SqL K H q (b.map V.int)) : RV (rEqD K) (.ref p) (.ref q) H (.bl (decide (a = b))) := fun H1 e Q k =>
  ⟨pdI a, pdI b, dp_ints (ex_l e hp), dp_ints (ex_l e hq), shaped_ints a, shaped_ints b, by rw [eqv_ints]; exact k H1 (Ex.refl H1)⟩
theorem rv_neL {p q : Addr} {a b : List Int} (hp : SqL K H p (a.map V.int)) (hq : SqL K H q (b.map V.int)) : RV (rNeD K) (.ref p) (.ref q) H (.bl (!decide (a = b))) := fun H1 e Q k =>
  ⟨pdI a, pdI b, dp_ints (ex_l e hp), dp_ints (ex_l e hq), shaped_ints a, shaped_ints b, by rw [eqv_ints]; exact k H1 (Ex.refl H1)⟩
theorem ev_eqL {p q : Addr} {a b : List Int} (ha : Ev ta σ H (.ref p)) (hb : Ev tb σ H (.ref q)) (hp : SqL K H p (a.map V.int)) (hq : SqL K H q (b.map V.int)) : Ev (tOp (rEqD K) ta tb) σ H (.bl (decide (a = b))) := ev_op ha hb (rv_eqL hp hq)
/-- the second a new list; both new -/
theorem ev_eqLN {p : Addr} {a b : List Int} (ha : Ev ta σ H (.ref p)) (hb : EvL tb σ H (b.map V.int)) (hp : SqL K H p (a.map V.int)) : Ev (tOp (rEqD K) ta tb) σ H (.bl (decide (a = b))) := ev_opL ha hb fun _ _ h e => rv_eqL (ex_l e hp) (sq_of h)
theorem ev_neLN {p : Addr} {a b : List Int} (ha : Ev ta σ H (.ref p)) (hb : EvL tb σ H (b.map V.int)) (hp : SqL K H p (a.map V.int)) : Ev (tOp (rNeD K) ta tb) σ H (.bl (!decide (a = b))) := ev_opL ha hb fun _ _ h e => rv_neL (ex_l e hp) (sq_of h)
theorem ev_eqNN {a b : List Int} (ha : EvL ta σ H (a.map V.int)) (hb : EvL tb σ H (b.map V.int)) : Ev (tOp (rEqD K) ta tb) σ H (.bl (decide (a = b))) := ev_opLL ha hb fun _ _ _ h1 h2 _ => rv_eqL (sq_of h1) (sq_of h2)
end
end Cw

/-! The text by places, and what the top has written of it. -/
namespace Cw
open PySem PySem.Spec PyProof.Rows L2 Evl
abbrev tx_is_cam_leap : Stmt := top 2
theorem sc_is_cam_leap : FnScope ["year"] ["year"] (defScope tx_is_cam_leap) := ⟨rfl, rfl, rfl, by decide +kernel, rfl, by decide +kernel, by decide +kernel⟩
abbrev tx_is_true_leap : Stmt := top 3
theorem sc_is_true_leap : FnScope ["year"] ["year"] (defScope tx_is_true_leap) := ⟨rfl, rfl, rfl, by decide +kernel, rfl, by decide +kernel, by decide +kernel⟩
abbrev tx_is_leap : Stmt := top 4
theorem sc_is_leap : FnScope ["year", "by_cam"] ["year", "by_cam"] (defScope tx_is_leap) := ⟨rfl, rfl, rfl, by decide +kernel, rfl, by decide +kernel, by decide +kernel⟩
abbrev tx_month_days : Stmt := top 5
theorem sc_month_days : FnScope ["year", "month", "by_cam"] ["year", "month", "by_cam"] (defScope tx_month_days) := ⟨rfl, rfl, rfl, by decide +kernel, rfl, by decide +kernel, by decide +kernel⟩
abbrev tx_year_days : Stmt := top 6
theorem sc_year_days : FnScope ["year", "by_cam"] ["year", "by_cam"] (defScope tx_year_days) := ⟨rfl, rfl, rfl, by decide +kernel, rfl, by decide +kernel, by decide +kernel⟩
abbrev tx_day_of_year : Stmt := top 7
theorem sc_day_of_year : FnScope ["year", "month", "day", "by_cam", "before", "earlier"] ["year", "month", "day", "by_cam"] (defScope tx_day_of_year) := ⟨rfl, rfl, rfl, by decide +kernel, rfl, by decide +kernel, by decide +kernel⟩
abbrev tx_date_of : Stmt := top 8
theorem sc_date_of : FnScope ["year", "before", "by_cam", "month"] ["year", "before", "by_cam"] (defScope tx_date_of) := ⟨rfl, rfl, rfl, by decide +kernel, rfl, by decide +kernel, by decide +kernel⟩
abbrev tx_days_on : Stmt := top 9
theorem sc_days_on : FnScope ["calendar", "days", "by_cam", "year", "before"] ["calendar", "days", "by_cam"] (defScope tx_days_on) := ⟨rfl, rfl, rfl, by decide +kernel, rfl, by decide +kernel, by decide +kernel⟩
abbrev tx_common_divisor : Stmt := top 11
theorem sc_common_divisor : FnScope ["a", "b", "rest"] ["a", "b"] (defScope tx_common_divisor) := ⟨rfl, rfl, rfl, by decide +kernel, rfl, by decide +kernel, by decide +kernel⟩
abbrev tx_lowest : Stmt := top 12
theorem sc_lowest : FnScope ["above", "below", "divisor"] ["above", "below"] (defScope tx_lowest) := ⟨rfl, rfl, rfl, by decide +kernel, rfl, by decide +kernel, by decide +kernel⟩
abbrev tx_drive_row : Stmt := top 13
theorem sc_drive_row : FnScope ["works", "row"] ["works"] (defScope tx_drive_row) := ⟨rfl, rfl, rfl, by decide +kernel, rfl, by decide +kernel, by decide +kernel⟩
abbrev tx_mesh_row : Stmt := top 14
theorem sc_mesh_row : FnScope ["works", "mesh", "row", "v", "w", "a", "b", "c"] ["works", "mesh"] (defScope tx_mesh_row) := ⟨rfl, rfl, rfl, by decide +kernel, rfl, by decide +kernel, by decide +kernel⟩
abbrev tx_shortened : Stmt := top 15
theorem sc_shortened : FnScope ["row", "divisor", "number"] ["row"] (defScope tx_shortened) := ⟨rfl, rfl, rfl, by decide +kernel, rfl, by decide +kernel, by decide +kernel⟩
abbrev tx_without : Stmt := top 16
theorem sc_without : FnScope ["row", "pivot", "column", "left", "place"] ["row", "pivot", "column"] (defScope tx_without) := ⟨rfl, rfl, rfl, by decide +kernel, rfl, by decide +kernel, by decide +kernel⟩
abbrev tx_row_with : Stmt := top 17
theorem sc_row_with : FnScope ["rows", "start", "column", "place"] ["rows", "start", "column"] (defScope tx_row_with) := ⟨rfl, rfl, rfl, by decide +kernel, rfl, by decide +kernel, by decide +kernel⟩
abbrev tx_reduced : Stmt := top 18
theorem sc_reduced : FnScope ["rows", "columns", "left", "done", "column", "place", "pivot", "other"] ["rows", "columns"] (defScope tx_reduced) := ⟨rfl, rfl, rfl, by decide +kernel, rfl, by decide +kernel, by decide +kernel⟩
abbrev tx_columns_used : Stmt := top 19
theorem sc_columns_used : FnScope ["row", "column"] ["row"] (defScope tx_columns_used) := ⟨rfl, rfl, rfl, by decide +kernel, rfl, by decide +kernel, by decide +kernel⟩
abbrev tx_are_locked : Stmt := top 20
theorem sc_are_locked : FnScope ["rows", "row"] ["rows"] (defScope tx_are_locked) := ⟨rfl, rfl, rfl, by decide +kernel, rfl, by decide +kernel, by decide +kernel⟩
abbrev tx_rate_in : Stmt := top 21
theorem sc_rate_in : FnScope ["rows", "column", "row"] ["rows", "column"] (defScope tx_rate_in) := ⟨rfl, rfl, rfl, by decide +kernel, rfl, by decide +kernel, by decide +kernel⟩
abbrev tx_set_rates : Stmt := top 22
theorem sc_set_rates : FnScope ["works", "rows", "mesh", "arbor", "rate"] ["works"] (defScope tx_set_rates) := ⟨rfl, rfl, rfl, by decide +kernel, rfl, by decide +kernel, by decide +kernel⟩
abbrev tx_rate_of : Stmt := top 24
theorem sc_rate_of : FnScope ["mover", "rate"] ["mover"] (defScope tx_rate_of) := ⟨rfl, rfl, rfl, by decide +kernel, rfl, by decide +kernel, by decide +kernel⟩
abbrev tx_towards_zero : Stmt := top 25
theorem sc_towards_zero : FnScope ["above", "below"] ["above", "below"] (defScope tx_towards_zero) := ⟨rfl, rfl, rfl, by decide +kernel, rfl, by decide +kernel, by decide +kernel⟩
abbrev tx_turned : Stmt := top 26
theorem sc_turned : FnScope ["mover", "time"] ["mover", "time"] (defScope tx_turned) := ⟨rfl, rfl, rfl, by decide +kernel, rfl, by decide +kernel, by decide +kernel⟩
abbrev tx_whole_turns : Stmt := top 27
theorem sc_whole_turns : FnScope ["mover", "time", "turns"] ["mover", "time"] (defScope tx_whole_turns) := ⟨rfl, rfl, rfl, by decide +kernel, rfl, by decide +kernel, by decide +kernel⟩
abbrev tx_shows : Stmt := top 28
theorem sc_shows : FnScope ["hand", "time", "turns"] ["hand", "time"] (defScope tx_shows) := ⟨rfl, rfl, rfl, by decide +kernel, rfl, by decide +kernel, by decide +kernel⟩
abbrev tx_struck_by : Stmt := top 29
theorem sc_struck_by : FnScope ["hand", "time", "mark"] ["hand", "time"] (defScope tx_struck_by) := ⟨rfl, rfl, rfl, by decide +kernel, rfl, by decide +kernel, by decide +kernel⟩
abbrev tx_turns_forward : Stmt := top 30
theorem sc_turns_forward : FnScope ["mover"] ["mover"] (defScope tx_turns_forward) := ⟨rfl, rfl, rfl, by decide +kernel, rfl, by decide +kernel, by decide +kernel⟩
abbrev tx_first_second : Stmt := top 31
theorem sc_first_second : FnScope ["mover", "turns"] ["mover", "turns"] (defScope tx_first_second) := ⟨rfl, rfl, rfl, by decide +kernel, rfl, by decide +kernel, by decide +kernel⟩
abbrev tx_lettings : Stmt := top 32
theorem sc_lettings : FnScope ["mover", "start", "end"] ["mover", "start", "end"] (defScope tx_lettings) := ⟨rfl, rfl, rfl, by decide +kernel, rfl, by decide +kernel, by decide +kernel⟩
abbrev tx_letting_seconds : Stmt := top 33
theorem sc_letting_seconds : FnScope ["mover", "start", "end", "before", "seconds", "more"] ["mover", "start", "end"] (defScope tx_letting_seconds) := ⟨rfl, rfl, rfl, by decide +kernel, rfl, by decide +kernel, by decide +kernel⟩
abbrev tx_strike : Stmt := top 34
theorem sc_strike : FnScope ["striker", "time", "number"] ["striker", "time"] (defScope tx_strike) := ⟨rfl, rfl, rfl, by decide +kernel, rfl, by decide +kernel, by decide +kernel⟩
abbrev tx_next_whole : Stmt := top 35
theorem sc_next_whole : FnScope ["start", "rate", "now", "above", "below", "whole"] ["start", "rate", "now"] (defScope tx_next_whole) := ⟨rfl, rfl, rfl, by decide +kernel, rfl, by decide +kernel, by decide +kernel⟩
abbrev tx_Mover_init : Stmt := inClass (top 37) 0
theorem sc_Mover_init : FnScope ["self", "name", "place", "source", "steps"] ["self", "name", "place", "source", "steps"] (defScope tx_Mover_init) := ⟨rfl, rfl, rfl, by decide +kernel, rfl, by decide +kernel, by decide +kernel⟩
abbrev tx_Wheel_init : Stmt := inClass (top 38) 0
theorem sc_Wheel_init : FnScope ["self", "name", "arbor", "teeth"] ["self", "name", "arbor", "teeth"] (defScope tx_Wheel_init) := ⟨rfl, rfl, rfl, by decide +kernel, rfl, by decide +kernel, by decide +kernel⟩
abbrev tx_Mesh_init : Stmt := inClass (top 39) 0
theorem sc_Mesh_init : FnScope ["self", "first", "second", "inside", "carrier"] ["self", "first", "second", "inside", "carrier"] (defScope tx_Mesh_init) := ⟨rfl, rfl, rfl, by decide +kernel, rfl, by decide +kernel, by decide +kernel⟩
abbrev tx_Hand_init : Stmt := inClass (top 40) 0
theorem sc_Hand_init : FnScope ["self", "name", "mover", "marks", "offset"] ["self", "name", "mover", "marks", "offset"] (defScope tx_Hand_init) := ⟨rfl, rfl, rfl, by decide +kernel, rfl, by decide +kernel, by decide +kernel⟩
abbrev tx_Striker_init : Stmt := inClass (top 41) 0
theorem sc_Striker_init : FnScope ["self", "name", "mover", "numbers", "hand"] ["self", "name", "mover", "numbers", "hand"] (defScope tx_Striker_init) := ⟨rfl, rfl, rfl, by decide +kernel, rfl, by decide +kernel, by decide +kernel⟩
abbrev tx_Calendar_init : Stmt := inClass (top 42) 0
theorem sc_Calendar_init : FnScope ["self", "name", "mover", "year", "month", "day"] ["self", "name", "mover", "year", "month", "day"] (defScope tx_Calendar_init) := ⟨rfl, rfl, rfl, by decide +kernel, rfl, by decide +kernel, by decide +kernel⟩
abbrev tx_Works_init : Stmt := inClass (top 43) 0
theorem sc_Works_init : FnScope ["self"] ["self"] (defScope tx_Works_init) := ⟨rfl, rfl, rfl, by decide +kernel, rfl, by decide +kernel, by decide +kernel⟩
abbrev tx_find : Stmt := top 44
theorem sc_find : FnScope ["parts", "name", "part"] ["parts", "name"] (defScope tx_find) := ⟨rfl, rfl, rfl, by decide +kernel, rfl, by decide +kernel, by decide +kernel⟩
abbrev tx_find_mover : Stmt := top 45
theorem sc_find_mover : FnScope ["works", "name", "arbor"] ["works", "name"] (defScope tx_find_mover) := ⟨rfl, rfl, rfl, by decide +kernel, rfl, by decide +kernel, by decide +kernel⟩
abbrev tx_is_taken : Stmt := top 46
theorem sc_is_taken : FnScope ["works", "name", "parts"] ["works", "name"] (defScope tx_is_taken) := ⟨rfl, rfl, rfl, by decide +kernel, rfl, by decide +kernel, by decide +kernel⟩
abbrev tx_rate : Stmt := top 48
theorem sc_rate : FnScope ["works", "name", "mover", "fraction"] ["works", "name"] (defScope tx_rate) := ⟨rfl, rfl, rfl, by decide +kernel, rfl, by decide +kernel, by decide +kernel⟩
abbrev tx_go : Stmt := top 49
theorem sc_go : FnScope ["works", "n", "end", "total", "striker", "strikes", "place", "second", "told", "one"] ["works", "n"] (defScope tx_go) := ⟨rfl, rfl, rfl, by decide +kernel, rfl, by decide +kernel, by decide +kernel⟩
abbrev tx_show : Stmt := top 50
theorem sc_show : FnScope ["works", "hand"] ["works"] (defScope tx_show) := ⟨rfl, rfl, rfl, by decide +kernel, rfl, by decide +kernel, by decide +kernel⟩
abbrev tx_turn : Stmt := top 51
theorem sc_turn : FnScope ["works", "h", "k", "hand"] ["works", "h", "k"] (defScope tx_turn) := ⟨rfl, rfl, rfl, by decide +kernel, rfl, by decide +kernel, by decide +kernel⟩
abbrev tx_lift : Stmt := top 52
theorem sc_lift : FnScope ["works", "s"] ["works", "s"] (defScope tx_lift) := ⟨rfl, rfl, rfl, by decide +kernel, rfl, by decide +kernel, by decide +kernel⟩
abbrev tx_lifts_needed : Stmt := top 53
theorem sc_lifts_needed : FnScope ["striker", "number", "count", "lifts"] ["striker", "number"] (defScope tx_lifts_needed) := ⟨rfl, rfl, rfl, by decide +kernel, rfl, by decide +kernel, by decide +kernel⟩
abbrev tx_astray : Stmt := top 54
theorem sc_astray : FnScope ["works", "s", "h", "striker", "second", "number", "lifts"] ["works", "s", "h"] (defScope tx_astray) := ⟨rfl, rfl, rfl, by decide +kernel, rfl, by decide +kernel, by decide +kernel⟩
abbrev tx_is_on_star : Stmt := top 55
theorem sc_is_on_star : FnScope ["hand"] ["hand"] (defScope tx_is_on_star) := ⟨rfl, rfl, rfl, by decide +kernel, rfl, by decide +kernel, by decide +kernel⟩
abbrev tx_meets : Stmt := top 56
theorem sc_meets : FnScope ["works", "g", "h", "one", "other", "first", "second", "apart", "start", "moment"] ["works", "g", "h"] (defScope tx_meets) := ⟨rfl, rfl, rfl, by decide +kernel, rfl, by decide +kernel, by decide +kernel⟩
abbrev tx_when : Stmt := top 57
theorem sc_when : FnScope ["works", "h", "m", "hand", "fraction", "start", "moment"] ["works", "h", "m"] (defScope tx_when) := ⟨rfl, rfl, rfl, by decide +kernel, rfl, by decide +kernel, by decide +kernel⟩
abbrev tx_date : Stmt := top 58
theorem sc_date : FnScope ["works", "c", "calendar", "gone", "with_set"] ["works", "c"] (defScope tx_date) := ⟨rfl, rfl, rfl, by decide +kernel, rfl, by decide +kernel, by decide +kernel⟩
abbrev tx_days : Stmt := top 59
theorem sc_days : FnScope ["works", "c", "n", "calendar"] ["works", "c", "n"] (defScope tx_days) := ⟨rfl, rfl, rfl, by decide +kernel, rfl, by decide +kernel, by decide +kernel⟩
abbrev tx_signs : Stmt := top 61
theorem sc_signs : FnScope ["text", "sign"] ["text"] (defScope tx_signs) := ⟨rfl, rfl, rfl, by decide +kernel, rfl, by decide +kernel, by decide +kernel⟩
abbrev tx_split_at : Stmt := top 62
theorem sc_split_at : FnScope ["text", "byte", "pieces", "piece", "sign"] ["text", "byte"] (defScope tx_split_at) := ⟨rfl, rfl, rfl, by decide +kernel, rfl, by decide +kernel, by decide +kernel⟩
abbrev tx_line_words : Stmt := top 63
theorem sc_line_words : FnScope ["line", "piece"] ["line"] (defScope tx_line_words) := ⟨rfl, rfl, rfl, by decide +kernel, rfl, by decide +kernel, by decide +kernel⟩
abbrev tx_is_small_letter : Stmt := top 64
theorem sc_is_small_letter : FnScope ["byte"] ["byte"] (defScope tx_is_small_letter) := ⟨rfl, rfl, rfl, by decide +kernel, rfl, by decide +kernel, by decide +kernel⟩
abbrev tx_is_digit : Stmt := top 65
theorem sc_is_digit : FnScope ["byte"] ["byte"] (defScope tx_is_digit) := ⟨rfl, rfl, rfl, by decide +kernel, rfl, by decide +kernel, by decide +kernel⟩
abbrev tx_is_name : Stmt := top 66
theorem sc_is_name : FnScope ["word", "byte"] ["word"] (defScope tx_is_name) := ⟨rfl, rfl, rfl, by decide +kernel, rfl, by decide +kernel, by decide +kernel⟩
abbrev tx_is_number : Stmt := top 67
theorem sc_is_number : FnScope ["word", "byte"] ["word"] (defScope tx_is_number) := ⟨rfl, rfl, rfl, by decide +kernel, rfl, by decide +kernel, by decide +kernel⟩
abbrev tx_number_of : Stmt := top 68
theorem sc_number_of : FnScope ["word", "number", "byte"] ["word"] (defScope tx_number_of) := ⟨rfl, rfl, rfl, by decide +kernel, rfl, by decide +kernel, by decide +kernel⟩
abbrev tx_words_can_be : Stmt := top 69
theorem sc_words_can_be : FnScope ["words", "word"] ["words"] (defScope tx_words_can_be) := ⟨rfl, rfl, rfl, by decide +kernel, rfl, by decide +kernel, by decide +kernel⟩
abbrev tx_is_kept : Stmt := top 70
theorem sc_is_kept : FnScope ["word", "kept", "name"] ["word"] (defScope tx_is_kept) := ⟨rfl, rfl, rfl, by decide +kernel, rfl, by decide +kernel, by decide +kernel⟩
abbrev tx_form_holds : Stmt := top 71
theorem sc_form_holds : FnScope ["words", "form", "place"] ["words", "form"] (defScope tx_form_holds) := ⟨rfl, rfl, rfl, by decide +kernel, rfl, by decide +kernel, by decide +kernel⟩
abbrev tx_new_name_fault : Stmt := top 73
theorem sc_new_name_fault : FnScope ["works", "words", "form", "parts", "most"] ["works", "words", "form", "parts", "most"] (defScope tx_new_name_fault) := ⟨rfl, rfl, rfl, by decide +kernel, rfl, by decide +kernel, by decide +kernel⟩
abbrev tx_read_arbor : Stmt := top 74
theorem sc_read_arbor : FnScope ["works", "words", "fault"] ["works", "words"] (defScope tx_read_arbor) := ⟨rfl, rfl, rfl, by decide +kernel, rfl, by decide +kernel, by decide +kernel⟩
abbrev tx_read_drive : Stmt := top 75
theorem sc_read_drive : FnScope ["works", "words", "arbor", "seconds"] ["works", "words"] (defScope tx_read_drive) := ⟨rfl, rfl, rfl, by decide +kernel, rfl, by decide +kernel, by decide +kernel⟩
abbrev tx_read_wheel : Stmt := top 76
theorem sc_read_wheel : FnScope ["works", "words", "fault", "arbor", "teeth"] ["works", "words"] (defScope tx_read_wheel) := ⟨rfl, rfl, rfl, by decide +kernel, rfl, by decide +kernel, by decide +kernel⟩
abbrev tx_read_mesh : Stmt := top 77
theorem sc_read_mesh : FnScope ["works", "words", "first", "second", "rest", "inside", "carrier"] ["works", "words"] (defScope tx_read_mesh) := ⟨rfl, rfl, rfl, by decide +kernel, rfl, by decide +kernel, by decide +kernel⟩
abbrev tx_read_jump : Stmt := top 78
theorem sc_read_jump : FnScope ["works", "words", "fault", "mover", "steps"] ["works", "words"] (defScope tx_read_jump) := ⟨rfl, rfl, rfl, by decide +kernel, rfl, by decide +kernel, by decide +kernel⟩
abbrev tx_read_hand : Stmt := top 79
theorem sc_read_hand : FnScope ["works", "words", "fault", "mover", "marks", "first"] ["works", "words"] (defScope tx_read_hand) := ⟨rfl, rfl, rfl, by decide +kernel, rfl, by decide +kernel, by decide +kernel⟩
abbrev tx_read_count : Stmt := top 80
theorem sc_read_count : FnScope ["works", "words", "form", "fault", "mover", "numbers", "word"] ["works", "words"] (defScope tx_read_count) := ⟨rfl, rfl, rfl, by decide +kernel, rfl, by decide +kernel, by decide +kernel⟩
abbrev tx_read_rack : Stmt := top 81
theorem sc_read_rack : FnScope ["works", "words", "fault", "mover", "hand"] ["works", "words"] (defScope tx_read_rack) := ⟨rfl, rfl, rfl, by decide +kernel, rfl, by decide +kernel, by decide +kernel⟩
abbrev tx_read_calendar : Stmt := top 82
theorem sc_read_calendar : FnScope ["works", "words", "fault", "mover", "year", "month", "day"] ["works", "words"] (defScope tx_read_calendar) := ⟨rfl, rfl, rfl, by decide +kernel, rfl, by decide +kernel, by decide +kernel⟩
abbrev tx_read_words : Stmt := top 83
theorem sc_read_words : FnScope ["works", "words", "first"] ["works", "words"] (defScope tx_read_words) := ⟨rfl, rfl, rfl, by decide +kernel, rfl, by decide +kernel, by decide +kernel⟩
abbrev tx_read_text : Stmt := top 84
theorem sc_read_text : FnScope ["works", "text", "lines", "place", "line", "words", "fault"] ["works", "text"] (defScope tx_read_text) := ⟨rfl, rfl, rfl, by decide +kernel, rfl, by decide +kernel, by decide +kernel⟩
abbrev tx_Bench_init : Stmt := inClass (top 88) 0
theorem sc_Bench_init : FnScope ["self"] ["self"] (defScope tx_Bench_init) := ⟨rfl, rfl, rfl, by decide +kernel, rfl, by decide +kernel, by decide +kernel⟩
abbrev tx_read : Stmt := top 89
theorem sc_read : FnScope ["bench", "text", "works", "fault", "refusal", "told"] ["bench", "text"] (defScope tx_read) := ⟨rfl, rfl, rfl, by decide +kernel, rfl, by decide +kernel, by decide +kernel⟩
abbrev tx_works_answer : Stmt := top 90
theorem sc_works_answer : FnScope ["works", "number", "w", "letters"] ["works", "number", "w", "letters"] (defScope tx_works_answer) := ⟨rfl, rfl, rfl, by decide +kernel, rfl, by decide +kernel, by decide +kernel⟩
abbrev tx_answers : Stmt := top 91
theorem sc_answers : FnScope ["calls", "bench", "told", "at", "number", "w", "letters", "size", "answer"] ["calls"] (defScope tx_answers) := ⟨rfl, rfl, rfl, by decide +kernel, rfl, by decide +kernel, by decide +kernel⟩
structure TDates (K : PySem.W.Frag) (mg : Str → Option Value) where
  td : Addr
  is_cam_leap : Fx K mg "is_cam_leap" tx_is_cam_leap ["year"]
  is_true_leap : Fx K mg "is_true_leap" tx_is_true_leap ["year"]
  is_leap : Fx K mg "is_leap" tx_is_leap ["year", "by_cam"]
  month_days : Fx K mg "month_days" tx_month_days ["year", "month", "by_cam"]
  year_days : Fx K mg "year_days" tx_year_days ["year", "by_cam"]
  day_of_year : Fx K mg "day_of_year" tx_day_of_year ["year", "month", "day", "by_cam"]
  date_of : Fx K mg "date_of" tx_date_of ["year", "before", "by_cam"]
  days_on : Fx K mg "days_on" tx_days_on ["calendar", "days", "by_cam"]
structure TRates (K : PySem.W.Frag) (mg : Str → Option Value) where
  td : Addr
  common_divisor : Fx K mg "common_divisor" tx_common_divisor ["a", "b"]
  lowest : Fx K mg "lowest" tx_lowest ["above", "below"]
  drive_row : Fx K mg "drive_row" tx_drive_row ["works"]
  mesh_row : Fx K mg "mesh_row" tx_mesh_row ["works", "mesh"]
  shortened : Fx K mg "shortened" tx_shortened ["row"]
  without : Fx K mg "without" tx_without ["row", "pivot", "column"]
  row_with : Fx K mg "row_with" tx_row_with ["rows", "start", "column"]
  reduced : Fx K mg "reduced" tx_reduced ["rows", "columns"]
  columns_used : Fx K mg "columns_used" tx_columns_used ["row"]
  are_locked : Fx K mg "are_locked" tx_are_locked ["rows"]
  rate_in : Fx K mg "rate_in" tx_rate_in ["rows", "column"]
  set_rates : Fx K mg "set_rates" tx_set_rates ["works"]
structure TMotion (K : PySem.W.Frag) (mg : Str → Option Value) where
  td : Addr
  rate_of : Fx K mg "rate_of" tx_rate_of ["mover"]
  towards_zero : Fx K mg "towards_zero" tx_towards_zero ["above", "below"]
  turned : Fx K mg "turned" tx_turned ["mover", "time"]
  whole_turns : Fx K mg "whole_turns" tx_whole_turns ["mover", "time"]
  shows : Fx K mg "shows" tx_shows ["hand", "time"]
  struck_by : Fx K mg "struck_by" tx_struck_by ["hand", "time"]
  turns_forward : Fx K mg "turns_forward" tx_turns_forward ["mover"]
  first_second : Fx K mg "first_second" tx_first_second ["mover", "turns"]
  lettings : Fx K mg "lettings" tx_lettings ["mover", "start", "end"]
  letting_seconds : Fx K mg "letting_seconds" tx_letting_seconds ["mover", "start", "end"]
  strike : Fx K mg "strike" tx_strike ["striker", "time"]
  next_whole : Fx K mg "next_whole" tx_next_whole ["start", "rate", "now"]
structure TParts (K : PySem.W.Frag) (mg : Str → Option Value) where
  td : Addr
  Mover : Clx K mg "Mover" "Mover.__init__" tx_Mover_init ["self", "name", "place", "source", "steps"] ["name", "place", "source", "steps", "above", "below"]
  Wheel : Clx K mg "Wheel" "Wheel.__init__" tx_Wheel_init ["self", "name", "arbor", "teeth"] ["name", "arbor", "teeth"]
  Mesh : Clx K mg "Mesh" "Mesh.__init__" tx_Mesh_init ["self", "first", "second", "inside", "carrier"] ["first", "second", "inside", "carrier"]
  Hand : Clx K mg "Hand" "Hand.__init__" tx_Hand_init ["self", "name", "mover", "marks", "offset"] ["name", "mover", "marks", "offset"]
  Striker : Clx K mg "Striker" "Striker.__init__" tx_Striker_init ["self", "name", "mover", "numbers", "hand"] ["name", "mover", "numbers", "hand", "place"]
  Calendar : Clx K mg "Calendar" "Calendar.__init__" tx_Calendar_init ["self", "name", "mover", "year", "month", "day"] ["name", "mover", "year", "month", "day", "offset"]
  Works : Clx K mg "Works" "Works.__init__" tx_Works_init ["self"] ["arbors", "wheels", "meshes", "stars", "hands", "strikers", "calendars", "driver", "seconds", "now"]
  find : Fx K mg "find" tx_find ["parts", "name"]
  find_mover : Fx K mg "find_mover" tx_find_mover ["works", "name"]
  is_taken : Fx K mg "is_taken" tx_is_taken ["works", "name"]
structure TCalls (K : PySem.W.Frag) (mg : Str → Option Value) where
  td : Addr
  rate : Fx K mg "rate" tx_rate ["works", "name"]
  go : Fx K mg "go" tx_go ["works", "n"]
  show_ : Fx K mg "show" tx_show ["works"]
  turn : Fx K mg "turn" tx_turn ["works", "h", "k"]
  lift : Fx K mg "lift" tx_lift ["works", "s"]
  lifts_needed : Fx K mg "lifts_needed" tx_lifts_needed ["striker", "number"]
  astray : Fx K mg "astray" tx_astray ["works", "s", "h"]
  is_on_star : Fx K mg "is_on_star" tx_is_on_star ["hand"]
  meets : Fx K mg "meets" tx_meets ["works", "g", "h"]
  when : Fx K mg "when" tx_when ["works", "h", "m"]
  date : Fx K mg "date" tx_date ["works", "c"]
  days : Fx K mg "days" tx_days ["works", "c", "n"]
structure TWords (K : PySem.W.Frag) (mg : Str → Option Value) where
  td : Addr
  signs : Fx K mg "signs" tx_signs ["text"]
  split_at : Fx K mg "split_at" tx_split_at ["text", "byte"]
  line_words : Fx K mg "line_words" tx_line_words ["line"]
  is_small_letter : Fx K mg "is_small_letter" tx_is_small_letter ["byte"]
  is_digit : Fx K mg "is_digit" tx_is_digit ["byte"]
  is_name : Fx K mg "is_name" tx_is_name ["word"]
  is_number : Fx K mg "is_number" tx_is_number ["word"]
  number_of : Fx K mg "number_of" tx_number_of ["word"]
  words_can_be : Fx K mg "words_can_be" tx_words_can_be ["words"]
  is_kept : Fx K mg "is_kept" tx_is_kept ["word"]
  form_holds : Fx K mg "form_holds" tx_form_holds ["words", "form"]
structure TReading (K : PySem.W.Frag) (mg : Str → Option Value) where
  td : Addr
  new_name_fault : Fx K mg "new_name_fault" tx_new_name_fault ["works", "words", "form", "parts", "most"]
  read_arbor : Fx K mg "read_arbor" tx_read_arbor ["works", "words"]
  read_drive : Fx K mg "read_drive" tx_read_drive ["works", "words"]
  read_wheel : Fx K mg "read_wheel" tx_read_wheel ["works", "words"]
  read_mesh : Fx K mg "read_mesh" tx_read_mesh ["works", "words"]
  read_jump : Fx K mg "read_jump" tx_read_jump ["works", "words"]
  read_hand : Fx K mg "read_hand" tx_read_hand ["works", "words"]
  read_count : Fx K mg "read_count" tx_read_count ["works", "words"]
  read_rack : Fx K mg "read_rack" tx_read_rack ["works", "words"]
  read_calendar : Fx K mg "read_calendar" tx_read_calendar ["works", "words"]
  read_words : Fx K mg "read_words" tx_read_words ["works", "words"]
  read_text : Fx K mg "read_text" tx_read_text ["works", "text"]
structure TWorks (K : PySem.W.Frag) (mg : Str → Option Value) where
  td : Addr
  Bench : Clx K mg "Bench" "Bench.__init__" tx_Bench_init ["self"] ["works"]
  read : Fx K mg "read" tx_read ["bench", "text"]
  works_answer : Fx K mg "works_answer" tx_works_answer ["works", "number", "w", "letters"]
  answers : Fx K mg "answers" tx_answers ["calls"]
def monthsV : List V := [.int 31, .int 28, .int 31, .int 30, .int 31, .int 30, .int 31, .int 31, .int 30, .int 31, .int 30, .int 31]
def wholeV : List V := [.int 0, .int 0, .int 1, .int 0, .int 2, .int 1, .int 2, .int 2, .int 2, .int 1, .int 2]
def rowsV : List V := [.int 1, .int 1, .int 0, .int 0, .int 0, .int 0, .int 0, .int 0, .int 0, .int 0, .int 0]
structure TGlob (K : PySem.W.Frag) (mg : Str → Option Value) where
  aM : Addr
  aW : Addr
  aR : Addr
  g_MONTHS : mg "MONTHS" = some (.ref aM)
  g_WHOLE_NUMBERS : mg "WHOLE_NUMBERS" = some (.ref aW)
  g_ROWS : mg "ROWS" = some (.ref aR)
  s_MONTHS : ∀ H, SqT K H aM monthsV
  s_WHOLE_NUMBERS : ∀ H, SqT K H aW wholeV
  s_ROWS : ∀ H, SqT K H aR rowsV
  b_len : mg "len" = none
  b_abs : mg "abs" = none
  b_max : mg "max" = none
  b_sorted : mg "sorted" = none
  b_list : mg "list" = none
  b_range : mg "range" = none
  b_ord : mg "ord" = none
structure Txt (K : PySem.W.Frag) (mg : Str → Option Value) extends TDates K mg, TRates K mg, TMotion K mg, TParts K mg, TCalls K mg, TWords K mg, TReading K mg, TWorks K mg, TGlob K mg
theorem Txt.n_Mover_name {K : PySem.W.Frag} {mg : Str → Option Value} (T : Txt K mg) : NoAttr K T.Mover.C "name" := T.Mover.n _ (by decide +kernel)
theorem Txt.n_Mover_place {K : PySem.W.Frag} {mg : Str → Option Value} (T : Txt K mg) : NoAttr K T.Mover.C "place" := T.Mover.n _ (by decide +kernel)
theorem Txt.n_Mover_source {K : PySem.W.Frag} {mg : Str → Option Value} (T : Txt K mg) : NoAttr K T.Mover.C "source" := T.Mover.n _ (by decide +kernel)
theorem Txt.n_Mover_steps {K : PySem.W.Frag} {mg : Str → Option Value} (T : Txt K mg) : NoAttr K T.Mover.C "steps" := T.Mover.n _ (by decide +kernel)
theorem Txt.n_Mover_above {K : PySem.W.Frag} {mg : Str → Option Value} (T : Txt K mg) : NoAttr K T.Mover.C "above" := T.Mover.n _ (by decide +kernel)
theorem Txt.n_Mover_below {K : PySem.W.Frag} {mg : Str → Option Value} (T : Txt K mg) : NoAttr K T.Mover.C "below" := T.Mover.n _ (by decide +kernel)
theorem Txt.n_Wheel_name {K : PySem.W.Frag} {mg : Str → Option Value} (T : Txt K mg) : NoAttr K T.Wheel.C "name" := T.Wheel.n _ (by decide +kernel)
theorem Txt.n_Wheel_arbor {K : PySem.W.Frag} {mg : Str → Option Value} (T : Txt K mg) : NoAttr K T.Wheel.C "arbor" := T.Wheel.n _ (by decide +kernel)
theorem Txt.n_Wheel_teeth {K : PySem.W.Frag} {mg : Str → Option Value} (T : Txt K mg) : NoAttr K T.Wheel.C "teeth" := T.Wheel.n _ (by decide +kernel)
theorem Txt.n_Mesh_first {K : PySem.W.Frag} {mg : Str → Option Value} (T : Txt K mg) : NoAttr K T.Mesh.C "first" := T.Mesh.n _ (by decide +kernel)
theorem Txt.n_Mesh_second {K : PySem.W.Frag} {mg : Str → Option Value} (T : Txt K mg) : NoAttr K T.Mesh.C "second" := T.Mesh.n _ (by decide +kernel)
theorem Txt.n_Mesh_inside {K : PySem.W.Frag} {mg : Str → Option Value} (T : Txt K mg) : NoAttr K T.Mesh.C "inside" := T.Mesh.n _ (by decide +kernel)
theorem Txt.n_Mesh_carrier {K : PySem.W.Frag} {mg : Str → Option Value} (T : Txt K mg) : NoAttr K T.Mesh.C "carrier" := T.Mesh.n _ (by decide +kernel)
theorem Txt.n_Hand_name {K : PySem.W.Frag} {mg : Str → Option Value} (T : Txt K mg) : NoAttr K T.Hand.C "name" := T.Hand.n _ (by decide +kernel)
theorem Txt.n_Hand_mover {K : PySem.W.Frag} {mg : Str → Option Value} (T : Txt K mg) : NoAttr K T.Hand.C "mover" := T.Hand.n _ (by decide +kernel)
theorem Txt.n_Hand_marks {K : PySem.W.Frag} {mg : Str → Option Value} (T : Txt K mg) : NoAttr K T.Hand.C "marks" := T.Hand.n _ (by decide +kernel)
theorem Txt.n_Hand_offset {K : PySem.W.Frag} {mg : Str → Option Value} (T : Txt K mg) : NoAttr K T.Hand.C "offset" := T.Hand.n _ (by decide +kernel)
theorem Txt.n_Striker_name {K : PySem.W.Frag} {mg : Str → Option Value} (T : Txt K mg) : NoAttr K T.Striker.C "name" := T.Striker.n _ (by decide +kernel)
theorem Txt.n_Striker_mover {K : PySem.W.Frag} {mg : Str → Option Value} (T : Txt K mg) : NoAttr K T.Striker.C "mover" := T.Striker.n _ (by decide +kernel)
theorem Txt.n_Striker_numbers {K : PySem.W.Frag} {mg : Str → Option Value} (T : Txt K mg) : NoAttr K T.Striker.C "numbers" := T.Striker.n _ (by decide +kernel)
theorem Txt.n_Striker_hand {K : PySem.W.Frag} {mg : Str → Option Value} (T : Txt K mg) : NoAttr K T.Striker.C "hand" := T.Striker.n _ (by decide +kernel)
theorem Txt.n_Striker_place {K : PySem.W.Frag} {mg : Str → Option Value} (T : Txt K mg) : NoAttr K T.Striker.C "place" := T.Striker.n _ (by decide +kernel)
theorem Txt.n_Calendar_name {K : PySem.W.Frag} {mg : Str → Option Value} (T : Txt K mg) : NoAttr K T.Calendar.C "name" := T.Calendar.n _ (by decide +kernel)
theorem Txt.n_Calendar_mover {K : PySem.W.Frag} {mg : Str → Option Value} (T : Txt K mg) : NoAttr K T.Calendar.C "mover" := T.Calendar.n _ (by decide +kernel)
theorem Txt.n_Calendar_year {K : PySem.W.Frag} {mg : Str → Option Value} (T : Txt K mg) : NoAttr K T.Calendar.C "year" := T.Calendar.n _ (by decide +kernel)
theorem Txt.n_Calendar_month {K : PySem.W.Frag} {mg : Str → Option Value} (T : Txt K mg) : NoAttr K T.Calendar.C "month" := T.Calendar.n _ (by decide +kernel)
theorem Txt.n_Calendar_day {K : PySem.W.Frag} {mg : Str → Option Value} (T : Txt K mg) : NoAttr K T.Calendar.C "day" := T.Calendar.n _ (by decide +kernel)
theorem Txt.n_Calendar_offset {K : PySem.W.Frag} {mg : Str → Option Value} (T : Txt K mg) : NoAttr K T.Calendar.C "offset" := T.Calendar.n _ (by decide +kernel)
theorem Txt.n_Works_arbors {K : PySem.W.Frag} {mg : Str → Option Value} (T : Txt K mg) : NoAttr K T.Works.C "arbors" := T.Works.n _ (by decide +kernel)
theorem Txt.n_Works_wheels {K : PySem.W.Frag} {mg : Str → Option Value} (T : Txt K mg) : NoAttr K T.Works.C "wheels" := T.Works.n _ (by decide +kernel)
theorem Txt.n_Works_meshes {K : PySem.W.Frag} {mg : Str → Option Value} (T : Txt K mg) : NoAttr K T.Works.C "meshes" := T.Works.n _ (by decide +kernel)
theorem Txt.n_Works_stars {K : PySem.W.Frag} {mg : Str → Option Value} (T : Txt K mg) : NoAttr K T.Works.C "stars" := T.Works.n _ (by decide +kernel)
theorem Txt.n_Works_hands {K : PySem.W.Frag} {mg : Str → Option Value} (T : Txt K mg) : NoAttr K T.Works.C "hands" := T.Works.n _ (by decide +kernel)
theorem Txt.n_Works_strikers {K : PySem.W.Frag} {mg : Str → Option Value} (T : Txt K mg) : NoAttr K T.Works.C "strikers" := T.Works.n _ (by decide +kernel)
theorem Txt.n_Works_calendars {K : PySem.W.Frag} {mg : Str → Option Value} (T : Txt K mg) : NoAttr K T.Works.C "calendars" := T.Works.n _ (by decide +kernel)
theorem Txt.n_Works_driver {K : PySem.W.Frag} {mg : Str → Option Value} (T : Txt K mg) : NoAttr K T.Works.C "driver" := T.Works.n _ (by decide +kernel)
theorem Txt.n_Works_seconds {K : PySem.W.Frag} {mg : Str → Option Value} (T : Txt K mg) : NoAttr K T.Works.C "seconds" := T.Works.n _ (by decide +kernel)
theorem Txt.n_Works_now {K : PySem.W.Frag} {mg : Str → Option Value} (T : Txt K mg) : NoAttr K T.Works.C "now" := T.Works.n _ (by decide +kernel)
theorem Txt.n_Bench_works {K : PySem.W.Frag} {mg : Str → Option Value} (T : Txt K mg) : NoAttr K T.Bench.C "works" := T.Bench.n _ (by decide +kernel)
end Cw

/-! The walk through dates. -/
namespace Cw
open PySem PySem.Spec PyProof.Rows L2 Evl
open Mu07 (camLeap trueLeap daysOf)
section
variable {P : Program} {w : World} {K : PySem.W.Frag} {mg : Str → Option Value} {base : Heap} (T : Txt K mg)
def pIsCam : List V → Hp → V → Prop := fun vs _ z => ∃ y : Int, vs = [.int y] ∧ z = .bl (camLeap y)
theorem ok_is_cam_leap : FnOk P w K mg base CX0 1 T.is_cam_leap.f T.is_cam_leap.fd ["year"] (spV pIsCam) := by
  refine T.is_cam_leap.F.ok sc_is_cam_leap (fun vs H Q E h => ?_) (fun cdv A outer s H vs Q E hr h => ?_)
  · obtain ⟨z, ⟨y, rfl, _⟩, _⟩ := h
    rfl
  · obtain ⟨z, ⟨y, rfl, rfl⟩, k⟩ := h
    refine ⟨_, (pss_one (ps_ret (pe_cmpR op_eq (pe_op op_mod (pv 0) pe_int) pe_int (nomark _)))), ?_⟩
    exact s_ret (ev_eqI (ev_iC (ev_var rfl) ev_c (by decide)) ev_c) k
def pIsTrue : List V → Hp → V → Prop := fun vs _ z => ∃ y : Int, vs = [.int y] ∧ z = .bl (trueLeap y)
theorem ok_is_true_leap : FnOk P w K mg base CX0 1 T.is_true_leap.f T.is_true_leap.fd ["year"] (spV pIsTrue) := by
  refine T.is_true_leap.F.ok sc_is_true_leap (fun vs H Q E h => ?_) (fun cdv A outer s H vs Q E hr h => ?_)
  · obtain ⟨z, ⟨y, rfl, _⟩, _⟩ := h
    rfl
  · obtain ⟨z, ⟨y, rfl, rfl⟩, k⟩ := h
    refine ⟨_, (pss_one (ps_ret (pe_and (pe_cmpR op_eq (pe_op op_mod (pv 0) pe_int) pe_int (nomark _)) (pe_one (pe_or (pe_cmpR op_ne (pe_op op_mod (pv 0) pe_int) pe_int (nomark _)) (pe_one (pe_cmpR op_eq (pe_op op_mod (pv 0) pe_int) pe_int (nomark _)))))))), ?_⟩
    exact s_ret (ev_andV (ev_eqI (ev_iC (ev_var rfl) ev_c (by decide)) ev_c) fun _ => ev_orV (ev_neI (ev_iC (ev_var rfl) ev_c (by decide)) ev_c) fun _ => ev_eqI (ev_iC (ev_var rfl) ev_c (by decide)) ev_c) k
def pIsLeap : List V → Hp → V → Prop := fun vs _ z => ∃ (y : Int) (c : Bool), vs = [.int y, .bl c] ∧ z = .bl (leapOf c y)
theorem ok_is_leap : FnOk P w K mg base CX0 2 T.is_leap.f T.is_leap.fd ["year", "by_cam"] (spV pIsLeap) := by
  refine T.is_leap.F.ok sc_is_leap (fun vs H Q E h => ?_) (fun cdv A outer s H vs Q E hr h => ?_)
  · obtain ⟨z, ⟨y, c, rfl, _⟩, _⟩ := h
    rfl
  · obtain ⟨z, ⟨y, c, rfl, rfl⟩, k⟩ := h
    refine ⟨_, (pss_cons (ps_if (pt_val (pv 1))
    (pss_one (ps_ret (pe_call (ok_is_cam_leap T) (hr.mono (by decide)) (by rfl) T.is_cam_leap.g T.is_cam_leap.F.kp T.is_cam_leap.b .nil pass0 (pa_cons (pv 0) pa_nil)))) pss_nil)
    (pss_one (ps_ret (pe_call (ok_is_true_leap T) (hr.mono (by decide)) (by rfl) T.is_true_leap.g T.is_true_leap.F.kp T.is_true_leap.b .nil pass0 (pa_cons (pv 0) pa_nil))))), ?_⟩
    refine q_when (et_B (ev_var rfl)) (fun hc H1 e1 => ?_) (fun hc H1 e1 => ?_)
    · subst hc
      exact s_ret (ev_call (ea_cons (ev_var rfl) ea_nil) (sv_of fun _ _ => ⟨y, rfl, rfl⟩)) fun H2 e2 => k H2 (e1.trans e2)
    · subst hc
      exact s_ret (ev_call (ea_cons (ev_var rfl) ea_nil) (sv_of fun _ _ => ⟨y, rfl, rfl⟩)) fun H2 e2 => k H2 (e1.trans e2)
def pMonthDays : List V → Hp → V → Prop := fun vs _ z => ∃ (y : Int) (m : Nat) (c : Bool), vs = [.int y, .int m, .bl c] ∧ 1 ≤ m ∧ m ≤ 12 ∧ z = .int ((daysOf (leapOf c y) m : Nat) : Int)
theorem months_at {m : Nat} (h1 : 1 ≤ m) (h2 : m ≤ 12) (l : Bool) (h : ¬ (m = 2 ∧ l = true)) : monthsV[m - 1]? = some (.int ((daysOf l m : Nat) : Int)) := by
  have : m = 1 ∨ m = 2 ∨ m = 3 ∨ m = 4 ∨ m = 5 ∨ m = 6 ∨ m = 7 ∨ m = 8 ∨ m = 9 ∨ m = 10 ∨ m = 11 ∨ m = 12 := by omega
  rcases this with rfl | rfl | rfl | rfl | rfl | rfl | rfl | rfl | rfl | rfl | rfl | rfl <;> first | rfl | skip
  cases l with
  | true => exact absurd ⟨rfl, rfl⟩ h
  | false => rfl
theorem ok_month_days : FnOk P w K mg base CX0 3 T.month_days.f T.month_days.fd ["year", "month", "by_cam"] (spV pMonthDays) := by
  refine T.month_days.F.ok sc_month_days (fun vs H Q E h => ?_) (fun cdv A outer s H vs Q E hr h => ?_)
  · obtain ⟨z, ⟨y, m, c, rfl, _⟩, _⟩ := h
    rfl
  · obtain ⟨z, ⟨y, m, c, rfl, h1, h2, rfl⟩, k⟩ := h
    refine ⟨_, (pss_cons (ps_if (PW.pt (pw_and (pt_cmpR op_eq (pv 1) pe_int (nomark _)) (pw_and1 (pt_val (pe_call (ok_is_leap T) (hr.mono (by decide)) (by rfl) T.is_leap.g T.is_leap.F.kp T.is_leap.b .nil pass0 (pa_cons (pv 0) (pa_cons (pv 2) pa_nil)))))))
    (pss_one (ps_ret pe_int)) pss_nil)
    (pss_one (ps_ret (pe_ix ix_tup (pe_glob (v := .ref T.aM) rfl T.g_MONTHS rfl) (pe_op op_sub (pv 1) pe_int) (fun _ _ => rfl))))), ?_⟩
    refine q_when (b := ((m : Int) == 2) && leapOf c y) (et_and (et_test (ev_eqI (ev_var rfl) ev_c)) fun _ => et_B (ev_call (ea_cons (ev_var rfl) (ea_cons (ev_var rfl) ea_nil)) (sv_of fun _ _ => ⟨y, c, rfl, rfl⟩))) (fun hc H1 e1 => ?_) (fun hc H1 e1 => ?_)
    · rw [Bool.and_eq_true, beq_iff_eq] at hc
      obtain ⟨hm, hl⟩ := hc
      have e : m = 2 := by omega
      subst e
      refine s_ret ev_c fun H2 e2 => ?_
      have := k H2 (e1.trans e2)
      rw [hl] at this
      exact this
    · refine s_ret (ev_ixT (j := m - 1) ev_c (ev_i (ev_var rfl) ev_c) (T.s_MONTHS _) (by omega) (months_at h1 h2 _ fun z => ?_)) fun H2 e2 => k H2 (e1.trans e2)
      rw [z.1, z.2] at hc
      exact absurd hc (by decide)
def pYearDays : List V → Hp → V → Prop := fun vs _ z => ∃ (y : Int) (c : Bool), vs = [.int y, .bl c] ∧ z = .int (yearLen c y)
theorem ok_year_days : FnOk P w K mg base CX0 3 T.year_days.f T.year_days.fd ["year", "by_cam"] (spV pYearDays) := by
  refine T.year_days.F.ok sc_year_days (fun vs H Q E h => ?_) (fun cdv A outer s H vs Q E hr h => ?_)
  · obtain ⟨z, ⟨y, c, rfl, _⟩, _⟩ := h
    rfl
  · obtain ⟨z, ⟨y, c, rfl, rfl⟩, k⟩ := h
    refine ⟨_, (pss_cons (ps_if (pt_val (pe_call (ok_is_leap T) (hr.mono (by decide)) (by rfl) T.is_leap.g T.is_leap.F.kp T.is_leap.b .nil pass0 (pa_cons (pv 0) (pa_cons (pv 1) pa_nil))))
    (pss_one (ps_ret pe_int)) pss_nil)
    (pss_one (ps_ret pe_int))), ?_⟩
    refine q_when (et_B (ev_call (ea_cons (ev_var rfl) (ea_cons (ev_var rfl) ea_nil)) (sv_of fun _ _ => ⟨y, c, rfl, rfl⟩))) (fun hc H1 e1 => ?_) (fun hc H1 e1 => ?_)
    · refine s_ret ev_c fun H2 e2 => ?_
      have := k H2 (e1.trans e2)
      unfold yearLen at this
      rw [if_pos hc] at this
      exact this
    · refine s_ret ev_c fun H2 e2 => ?_
      have := k H2 (e1.trans e2)
      unfold yearLen at this
      rw [if_neg (by rw [hc]; decide)] at this
      exact this
end
end Cw

/-! The walk through dates: the loops. -/
namespace Cw
open PySem PySem.Spec PyProof.Rows L2 Evl
open Mu07 (camLeap trueLeap daysOf Day daysFrom)
section
variable {P : Program} {w : World} {K : PySem.W.Frag} {mg : Str → Option Value} {base : Heap} (T : Txt K mg)
def pDayOfYear : List V → Hp → V → Prop := fun vs _ z => ∃ (y : Int) (m d : Nat) (c : Bool), vs = [.int y, .int m, .int d, .bl c] ∧ 1 ≤ m ∧ m ≤ 12 ∧ z = .int ((aheadK (leapOf c y) (m - 1) : Int) + d - 1)
theorem ok_day_of_year : FnOk P w K mg base CX0 4 T.day_of_year.f T.day_of_year.fd ["year", "month", "day", "by_cam"] (spV pDayOfYear) := by
  refine T.day_of_year.F.ok sc_day_of_year (fun vs H Q E h => ?_) (fun cdv A outer s H vs Q E hr h => ?_)
  · obtain ⟨z, ⟨y, m, d, c, rfl, _⟩, _⟩ := h
    rfl
  · obtain ⟨z, ⟨y, m, d, c, rfl, h1, h2, rfl⟩, k⟩ := h
    refine ⟨_, (pss_cons (ps_set (i := 4) sc_day_of_year.nd rfl (Or.inl rfl) (pe_op op_sub (pv 2) pe_int))
    (pss_cons (ps_for PassesOwn.never rfl (pi_range2 (by rfl) T.b_range (pa_cons pe_int (pa_cons (pv 1) pa_nil))) (pg_name (i := 5) sc_day_of_year.nd rfl (Or.inl rfl))
    (pss_one (ps_set (i := 4) sc_day_of_year.nd rfl (Or.inl rfl) (pe_op op_add (pv 4) (pe_call (ok_month_days T) (hr.mono (by decide)) (by rfl) T.month_days.g T.month_days.F.kp T.month_days.b .nil pass0 (pa_cons (pv 0) (pa_cons (pv 5) (pa_cons (pv 3) pa_nil))))))))
    (pss_one (ps_ret (pv 4))))), ?_⟩
    refine q_asg (ev_i (ev_var rfl) ev_c) fun H1 e1 => ?_
    refine q_forR2 (lo := 1) (n := m) (ea_cons ev_c (ea_cons (ev_var rfl) ea_nil)) ⟨by omega, by omega, by omega, by omega⟩
      (fun i σ' H' => ∃ o, σ' = [some (.int y), some (.int m), some (.int d), some (.bl c), some (.int ((aheadK (leapOf c y) i : Int) + d - 1)), o] ∧ Ex H H') (fun H2 e2 => ⟨none, ?_, e1.trans e2⟩) (fun i σ' H' hi hp => ?_) (fun σ' H' hp => ?_)
    · show _ = [some (V.int y), some (V.int m), some (V.int d), some (V.bl c), some (V.int (((0 : Nat) : Int) + d - 1)), none]
      have e : ((0 : Nat) : Int) + d - 1 = d - 1 := by omega
      rw [e]
      rfl
    · obtain ⟨o, rfl, e⟩ := hp
      have hm : (1 : Int) + (i : Int) = ((i + 1 : Nat) : Int) := by omega
      rw [hm]
      refine s_asg (ev_i (ev_var rfl) (ev_call (ea_cons (ev_var rfl) (ea_cons (ev_var rfl) (ea_cons (ev_var rfl) ea_nil))) (sv_of fun _ _ => ⟨y, i + 1, c, rfl, by omega, by omega, rfl⟩))) fun H2 e2 => ⟨some (.int ((i + 1 : Nat) : Int)), ?_, e.trans e2⟩
      show _ = [some (V.int y), some (V.int m), some (V.int d), some (V.bl c), some (V.int (((aheadK (leapOf c y) i + daysOf (leapOf c y) (i + 1) : Nat) : Int) + d - 1)), some (V.int ((i + 1 : Nat) : Int))]
      have e3 : ((aheadK (leapOf c y) i + daysOf (leapOf c y) (i + 1) : Nat) : Int) + d - 1 = (aheadK (leapOf c y) i : Int) + d - 1 + (daysOf (leapOf c y) (i + 1) : Nat) := by omega
      rw [e3]
      rfl
    · obtain ⟨o, rfl, e⟩ := hp
      have e4 : ((m : Int) - 1).toNat = m - 1 := by omega
      rw [e4]
      exact s_ret (ev_var rfl) fun H2 e2 => k H2 (e.trans e2)
def pDateOf : List V → Hp → List V → Prop := fun vs _ xs => ∃ (y b : Int) (m d : Nat) (c : Bool), vs = [.int y, .int b, .bl c] ∧ 1 ≤ m ∧ m ≤ 12 ∧ 1 ≤ d ∧ d ≤ daysOf (leapOf c y) m ∧ b = (aheadK (leapOf c y) (m - 1) : Int) + d - 1 ∧ xs = [.int y, .int m, .int d]
theorem ok_date_of : FnOk P w K mg base CX0 4 T.date_of.f T.date_of.fd ["year", "before", "by_cam"] (spL pDateOf) := by
  refine T.date_of.F.ok sc_date_of (fun vs H Q E h => ?_) (fun cdv A outer s H vs Q E hr h => ?_)
  · obtain ⟨z, ⟨y, b, m, d, c, rfl, _⟩, _⟩ := h
    rfl
  · obtain ⟨z, ⟨y, b, m, d, c, rfl, h1, h2, h3, h4, rfl, rfl⟩, k⟩ := h
    refine ⟨_, (pss_cons (ps_set (i := 3) sc_date_of.nd rfl (Or.inl rfl) pe_int)
    (pss_cons (ps_while PassesOwn.never (pt_cmpR op_ge (pv 1) (pe_call (ok_month_days T) (hr.mono (by decide)) (by rfl) T.month_days.g T.month_days.F.kp T.month_days.b .nil pass0 (pa_cons (pv 0) (pa_cons (pv 3) (pa_cons (pv 2) pa_nil)))) (nomark _))
    (pss_cons (ps_set (i := 1) sc_date_of.nd rfl (Or.inl rfl) (pe_op op_sub (pv 1) (pe_call (ok_month_days T) (hr.mono (by decide)) (by rfl) T.month_days.g T.month_days.F.kp T.month_days.b .nil pass0 (pa_cons (pv 0) (pa_cons (pv 3) (pa_cons (pv 2) pa_nil))))))
    (pss_one (ps_set (i := 3) sc_date_of.nd rfl (Or.inl rfl) (pe_op op_add (pv 3) pe_int)))))
    (pss_one (ps_ret (pe_lst (pa_cons (pv 0) (pa_cons (pv 3) (pa_cons (pe_op op_add (pv 1) pe_int) pa_nil)))))))), ?_⟩
    refine q_asg ev_c fun H1 e1 => ?_
    have step : ∀ j, 1 ≤ j → aheadK (leapOf c y) j = aheadK (leapOf c y) (j - 1) + daysOf (leapOf c y) j := fun j hj => by
      obtain ⟨i, rfl⟩ : ∃ i, j = i + 1 := ⟨j - 1, by omega⟩
      rfl
    refine q_while (fun n σ' H' => ∃ j : Nat, 1 ≤ j ∧ j ≤ m ∧ n = m - j ∧ σ' = [some (.int y), some (.int ((aheadK (leapOf c y) (m - 1) : Int) + d - 1 - aheadK (leapOf c y) (j - 1))), some (.bl c), some (.int j)] ∧ Ex H H') (m - 1) ⟨1, by omega, by omega, rfl, ?_, e1⟩ fun n σ' H' hw => ?_
    · show _ = [some (V.int y), some (V.int ((aheadK (leapOf c y) (m - 1) : Int) + d - 1 - ((0 : Nat) : Int))), some (V.bl c), some (V.int ((1 : Nat) : Int))]
      have e : (aheadK (leapOf c y) (m - 1) : Int) + d - 1 - ((0 : Nat) : Int) = (aheadK (leapOf c y) (m - 1) : Int) + d - 1 := by omega
      rw [e]
      rfl
    · obtain ⟨j, j1, j2, rfl, rfl, e⟩ := hw
      refine ⟨_, et_test (ev_i (ev_var rfl) (ev_call (ea_cons (ev_var rfl) (ea_cons (ev_var rfl) (ea_cons (ev_var rfl) ea_nil))) (sv_of fun _ _ => ⟨y, j, c, rfl, j1, by omega, rfl⟩))), fun hb H2 e2 => ?_, fun hb H2 e2 => ?_⟩
      · have hb := of_decide_eq_true hb
        have ne : j ≠ m := fun z => by
          subst z
          omega
        refine ⟨fun σ3 H3 => σ3 = [some (.int y), some (.int ((aheadK (leapOf c y) (m - 1) : Int) + d - 1 - aheadK (leapOf c y) (j + 1 - 1))), some (.bl c), some (.int ((j + 1 : Nat) : Int))] ∧ Ex H H3, fun σ3 H3 h => ⟨m - (j + 1), by omega, j + 1, by omega, by omega, rfl, h.1, h.2⟩, ?_⟩
        refine q_asg (ev_i (ev_var rfl) (ev_call (ea_cons (ev_var rfl) (ea_cons (ev_var rfl) (ea_cons (ev_var rfl) ea_nil))) (sv_of fun _ _ => ⟨y, j, c, rfl, j1, by omega, rfl⟩))) fun H3 e3 => ?_
        refine s_asg (ev_i (ev_var rfl) ev_c) fun H4 e4 => ⟨?_, ((e.trans e2).trans e3).trans e4⟩
        have s := step j j1
        have e5 : (aheadK (leapOf c y) (m - 1) : Int) + d - 1 - aheadK (leapOf c y) (j + 1 - 1) = (aheadK (leapOf c y) (m - 1) : Int) + d - 1 - aheadK (leapOf c y) (j - 1) - (daysOf (leapOf c y) j : Nat) := by
          rw [Nat.add_sub_cancel, s]
          omega
        rw [e5]
        rfl
      · have hb := of_decide_eq_false hb
        have em : j = m := Classical.byContradiction fun z => by
          have s := step j j1
          have := ahead_le (l := leapOf c y) (j := j) (k := m - 1) (by omega)
          omega
        subst em
        have e6 : (aheadK (leapOf c y) (j - 1) : Int) + d - 1 - aheadK (leapOf c y) (j - 1) + 1 = d := by omega
        refine s_retL (el_lst (ea_cons (ev_var rfl) (ea_cons (ev_var rfl) (ea_cons (ev_is (ev_i (ev_var rfl) ev_c) (congrArg V.int e6)) ea_nil))) (Nat.le_of_ble_eq_true rfl)) fun p H3 hp e3 h3 => ?_
        exact k p H3 (fresh_back (e.trans e2) hp) ((e.trans e2).trans e3) h3
/-- a calendar's first day -/
def CalDay (K : PySem.W.Frag) (H : Hp) (p : Addr) (x : Day) : Prop := Fd K H p "year" (.int x.y) ∧ Fd K H p "month" (.int x.m) ∧ Fd K H p "day" (.int x.d)
theorem CalDay.ex {K : PySem.W.Frag} {H H' : Hp} {p : Addr} {x : Day} (h : CalDay K H p x) (e : Ex H H') : CalDay K H' p x := ⟨h.1.ex e, h.2.1.ex e, h.2.2.ex e⟩
def dayV (x : Day) : List V := [.int x.y, .int x.m, .int x.d]
def pDaysOn (K : PySem.W.Frag) : List V → Hp → List V → Prop := fun vs H xs => ∃ (p : Addr) (x : Day) (n : Int) (c : Bool), vs = [.ref p, .int n, .bl c] ∧ CalDay K H p x ∧ Valid (leapOf c) x ∧ xs = dayV (daysFrom (leapOf c) x n)
theorem ok_days_on : FnOk P w K mg base CX0 5 T.days_on.f T.days_on.fd ["calendar", "days", "by_cam"] (spL (pDaysOn K)) := by
  refine T.days_on.F.ok sc_days_on (fun vs H Q E h => ?_) (fun cdv A outer s H vs Q E hr h => ?_)
  · obtain ⟨z, ⟨p, x, n, c, rfl, _⟩, _⟩ := h
    rfl
  · obtain ⟨z, ⟨p, x, n, c, rfl, hC, hv, rfl⟩, k⟩ := h
    refine ⟨_, (pss_cons (ps_set (i := 3) sc_days_on.nd rfl (Or.inl rfl) (pe_fld (pv 0) rfl))
    (pss_cons (ps_set (i := 4) sc_days_on.nd rfl (Or.inl rfl) (pe_op op_add (pe_call (ok_day_of_year T) (hr.mono (by decide)) (by rfl) T.day_of_year.g T.day_of_year.F.kp T.day_of_year.b .nil pass0 (pa_cons (pv 3) (pa_cons (pe_fld (pv 0) rfl) (pa_cons (pe_fld (pv 0) rfl) (pa_cons (pv 2) pa_nil))))) (pv 1)))
    (pss_cons (ps_while PassesOwn.never (pt_cmpR op_lt (pv 4) pe_int (nomark _))
    (pss_cons (ps_set (i := 3) sc_days_on.nd rfl (Or.inl rfl) (pe_op op_sub (pv 3) pe_int))
    (pss_one (ps_set (i := 4) sc_days_on.nd rfl (Or.inl rfl) (pe_op op_add (pv 4) (pe_call (ok_year_days T) (hr.mono (by decide)) (by rfl) T.year_days.g T.year_days.F.kp T.year_days.b .nil pass0 (pa_cons (pv 3) (pa_cons (pv 2) pa_nil))))))))
    (pss_cons (ps_while PassesOwn.never (pt_cmpR op_ge (pv 4) (pe_call (ok_year_days T) (hr.mono (by decide)) (by rfl) T.year_days.g T.year_days.F.kp T.year_days.b .nil pass0 (pa_cons (pv 3) (pa_cons (pv 2) pa_nil))) (nomark _))
    (pss_cons (ps_set (i := 4) sc_days_on.nd rfl (Or.inl rfl) (pe_op op_sub (pv 4) (pe_call (ok_year_days T) (hr.mono (by decide)) (by rfl) T.year_days.g T.year_days.F.kp T.year_days.b .nil pass0 (pa_cons (pv 3) (pa_cons (pv 2) pa_nil)))))
    (pss_one (ps_set (i := 3) sc_days_on.nd rfl (Or.inl rfl) (pe_op op_add (pv 3) pe_int)))))
    (pss_one (ps_ret (pe_call (ok_date_of T) (hr.mono (by decide)) (by rfl) T.date_of.g T.date_of.F.kp T.date_of.b .nil pass0 (pa_cons (pv 3) (pa_cons (pv 4) (pa_cons (pv 2) pa_nil)))))))))), ?_⟩
    obtain ⟨vr, er⟩ := from_ord n hv
    obtain ⟨iy0, iy1⟩ := in_year vr
    refine q_asg (ev_fld (ev_var rfl) hC.1) fun H1 e1 => ?_
    refine q_asg (ev_i (ev_call (ea_cons (ev_var rfl) (ea_cons (ev_fld (ev_var rfl) (hC.ex e1).2.1) (ea_cons (ev_fld (ev_var rfl) (hC.ex e1).2.2) (ea_cons (ev_var rfl) ea_nil)))) (sv_of fun _ _ => ⟨x.y, x.m, x.d, c, rfl, hv.m1, hv.m2, rfl⟩)) (ev_var rfl)) fun H2 e2 => ?_
    have e12 : Ex H H2 := e1.trans e2
    refine q_while (fun k σ' H' => ∃ y b : Int, k = (-b).toNat ∧ yearsTo c y + b = ordOf c x + n ∧ σ' = [some (.ref p), some (.int n), some (.bl c), some (.int y), some (.int b)] ∧ Ex H H') _ ⟨x.y, inYear (leapOf c) x + n, rfl, by unfold ordOf; omega, ?_, e12⟩ fun m σ' H' hw => ?_
    · rfl
    · obtain ⟨y, b, rfl, ho, rfl, e⟩ := hw
      refine ⟨_, et_test (ev_i (ev_var rfl) ev_c), fun hb H3 e3 => ?_, fun hb H3 e3 => ?_⟩
      · have hb := of_decide_eq_true hb
        have yp := yearLen_pos c (y - 1)
        have ys := years_succ c (y - 1)
        rw [Int.sub_add_cancel] at ys
        refine ⟨fun σ4 H4 => σ4 = [some (.ref p), some (.int n), some (.bl c), some (.int (y - 1)), some (.int (b + yearLen c (y - 1)))] ∧ Ex H H4, fun σ4 H4 h => ⟨(-(b + yearLen c (y - 1))).toNat, by omega, y - 1, b + yearLen c (y - 1), rfl, by omega, h.1, h.2⟩, ?_⟩
        refine q_asg (ev_i (ev_var rfl) ev_c) fun H4 e4 => ?_
        exact s_asg (ev_i (ev_var rfl) (ev_call (ea_cons (ev_var rfl) (ea_cons (ev_var rfl) ea_nil)) (sv_of fun _ _ => ⟨y - 1, c, rfl, rfl⟩))) fun H5 e5 => ⟨rfl, ((e.trans e3).trans e4).trans e5⟩
      · have hb := of_decide_eq_false hb
        have e3' := e.trans e3
        refine q_while (fun k σ' H' => ∃ y b : Int, 0 ≤ b ∧ k = b.toNat ∧ yearsTo c y + b = ordOf c x + n ∧ σ' = [some (.ref p), some (.int n), some (.bl c), some (.int y), some (.int b)] ∧ Ex H H') _ ⟨y, b, by omega, rfl, ho, rfl, e3'⟩ fun m σ' H' hw => ?_
        obtain ⟨y, b, b0, rfl, ho, rfl, e⟩ := hw
        refine ⟨_, et_test (ev_i (ev_var rfl) (ev_call (ea_cons (ev_var rfl) (ea_cons (ev_var rfl) ea_nil)) (sv_of fun _ _ => ⟨y, c, rfl, rfl⟩))), fun hb H4 e4 => ?_, fun hb H4 e4 => ?_⟩
        · have hb := of_decide_eq_true hb
          have yp := yearLen_pos c y
          have ys := years_succ c y
          refine ⟨fun σ4 H4 => σ4 = [some (.ref p), some (.int n), some (.bl c), some (.int (y + 1)), some (.int (b - yearLen c y))] ∧ Ex H H4, fun σ4 H4 h => ⟨(b - yearLen c y).toNat, by omega, y + 1, b - yearLen c y, by omega, rfl, by omega, h.1, h.2⟩, ?_⟩
          refine q_asg (ev_i (ev_var rfl) (ev_call (ea_cons (ev_var rfl) (ea_cons (ev_var rfl) ea_nil)) (sv_of fun _ _ => ⟨y, c, rfl, rfl⟩))) fun H5 e5 => ?_
          exact s_asg (ev_i (ev_var rfl) ev_c) fun H6 e6 => ⟨rfl, ((e.trans e4).trans e5).trans e6⟩
        · have hb := of_decide_eq_false hb
          have u : y = (daysFrom (leapOf c) x n).y ∧ b = inYear (leapOf c) (daysFrom (leapOf c) x n) := year_uniq (c := c) b0 (by omega) iy0 iy1 (by
            have : ordOf c (daysFrom (leapOf c) x n) = yearsTo c (daysFrom (leapOf c) x n).y + inYear (leapOf c) (daysFrom (leapOf c) x n) := rfl
            omega)
          obtain ⟨rfl, rfl⟩ := u
          refine s_retL (el_call (ea_cons (ev_var rfl) (ea_cons (ev_var rfl) (ea_cons (ev_var rfl) ea_nil))) (sl_of fun _ _ => ⟨_, _, _, _, c, rfl, vr.m1, vr.m2, vr.d1, vr.d2, rfl, rfl⟩)) fun q H5 hq e5 h5 => ?_
          exact k q H5 (fresh_back (e.trans e4) hq) ((e.trans e4).trans e5) h5
end
end Cw

/-! The walk through rates: divisors, fractions, rows. -/
namespace Cw
open PySem PySem.Spec PyProof.Rows L2 Evl
section
variable {P : Program} {w : World} {K : PySem.W.Frag} {mg : Str → Option Value} {base : Heap} (T : Txt K mg)
def pGcd : List V → Hp → V → Prop := fun vs _ z => ∃ a b : Nat, vs = [.int a, .int b] ∧ z = .int ((Nat.gcd a b : Nat) : Int)
theorem ok_common_divisor : FnOk P w K mg base CX0 1 T.common_divisor.f T.common_divisor.fd ["a", "b"] (spV pGcd) := by
  refine T.common_divisor.F.ok sc_common_divisor (fun vs H Q E h => ?_) (fun cdv A outer s H vs Q E hr h => ?_)
  · obtain ⟨z, ⟨a, b, rfl, _⟩, _⟩ := h
    rfl
  · obtain ⟨z, ⟨a, b, rfl, rfl⟩, k⟩ := h
    refine ⟨_, (pss_cons (ps_while PassesOwn.never (pt_cmpR op_gt (pv 1) pe_int (nomark _))
    (pss_cons (ps_set (i := 2) sc_common_divisor.nd rfl (Or.inl rfl) (pe_op op_mod (pv 0) (pv 1)))
    (pss_cons (ps_set (i := 0) sc_common_divisor.nd rfl (Or.inl rfl) (pv 1))
    (pss_one (ps_set (i := 1) sc_common_divisor.nd rfl (Or.inl rfl) (pv 2))))))
    (pss_one (ps_ret (pv 0)))), ?_⟩
    refine q_while (fun n σ' H' => ∃ (c : Nat) (o : Option V), Nat.gcd c n = Nat.gcd a b ∧ σ' = [some (.int c), some (.int n), o] ∧ Ex H H') b ⟨a, none, rfl, rfl, Ex.refl H⟩ fun n σ' H' hw => ?_
    obtain ⟨c, o, hg, rfl, e⟩ := hw
    refine ⟨_, et_test (ev_i (ev_var rfl) ev_c), fun hb H2 e2 => ?_, fun hb H2 e2 => ?_⟩
    · have hb := of_decide_eq_true hb
      have n0 : 0 < n := by omega
      have em : (c : Int) % (n : Int) = ((c % n : Nat) : Int) := by omega
      refine ⟨fun σ3 H3 => σ3 = [some (.int n), some (.int ((c % n : Nat) : Int)), some (.int ((c % n : Nat) : Int))] ∧ Ex H H3, fun σ3 H3 h => ⟨c % n, Nat.mod_lt _ n0, n, _, ?_, h.1, h.2⟩, ?_⟩
      · rw [← hg, Nat.gcd_comm c n, Nat.gcd_rec n c, Nat.gcd_comm]
      · refine q_asg (ev_is (ev_iC (ev_var rfl) (ev_var rfl) (by show (0 : Int) < n; omega)) (congrArg V.int em)) fun H3 e3 => ?_
        refine q_asg (ev_var rfl) fun H4 e4 => ?_
        exact s_asg (ev_var rfl) fun H5 e5 => ⟨rfl, (((e.trans e2).trans e3).trans e4).trans e5⟩
    · have hb := of_decide_eq_false hb
      have n0 : n = 0 := by omega
      subst n0
      have ec : c = Nat.gcd a b := by rw [← hg, Nat.gcd_zero_right]
      subst ec
      exact s_ret (ev_var rfl) fun H3 e3 => k H3 ((e.trans e2).trans e3)
def fracV (q : Mu07.Q) : List V := [.int q.n, .int (q.d : Int)]
/-- small enough for any division -/
def Sm (z : Int) : Prop := z.natAbs < 2 ^ 9000
theorem Sm.mono {a b : Int} (h : a.natAbs ≤ b.natAbs) (hb : Sm b) : Sm a := Nat.lt_of_le_of_lt h hb
def pLowest : List V → Hp → List V → Prop := fun vs _ xs => ∃ n d : Int, vs = [.int n, .int d] ∧ d ≠ 0 ∧ Sm d ∧ xs = fracV (Mu07.frac n d)
theorem ok_lowest : FnOk P w K mg base CX0 2 T.lowest.f T.lowest.fd ["above", "below"] (spU pLowest) := by
  refine T.lowest.F.ok sc_lowest (fun vs H Q E h => ?_) (fun cdv A outer s H vs Q E hr h => ?_)
  · obtain ⟨z, ⟨n, d, rfl, _⟩, _⟩ := h
    rfl
  · obtain ⟨z, ⟨n, d, rfl, d0, hd, rfl⟩, k⟩ := h
    refine ⟨_, (pss_cut (ps_if (pt_cmpR op_lt (pv 1) pe_int (nomark _))
    (pss_cons (ps_set (i := 0) sc_lowest.nd rfl (Or.inl rfl) (pe_un un_neg (pv 0)))
    (pss_one (ps_set (i := 1) sc_lowest.nd rfl (Or.inl rfl) (pe_un un_neg (pv 1))))) pss_nil)
    (pss_cons (ps_set (i := 2) sc_lowest.nd rfl (Or.inl rfl) (pe_call (ok_common_divisor T) (hr.mono (by decide)) (by rfl) T.common_divisor.g T.common_divisor.F.kp T.common_divisor.b .nil pass0 (pa_cons (pe_callB call_abs (by rfl) T.b_abs (by decide +kernel) (pa_cons (pv 0) pa_nil)) (pa_cons (pv 1) pa_nil))))
    (pss_one (ps_ret (pe_tup (pa_cons (pe_op op_fdivW (pv 0) (pv 2)) (pa_cons (pe_op op_fdivW (pv 1) (pv 2)) pa_nil))))))), ?_⟩
    refine q_cut (M := fun σ' H' => σ' = [some (.int ((if d < 0 then -1 else 1) * n)), some (.int ((d.natAbs : Nat) : Int)), none] ∧ Ex H H') ?_ fun σ' H' hM => ?_
    · refine s_when (et_test (ev_i (ev_var rfl) ev_c)) (fun hb H2 e2 => ?_) (fun hb H2 e2 => ?_)
      · have hb := of_decide_eq_true hb
        refine q_asg (ev_neg (ev_var rfl)) fun H3 e3 => ?_
        refine s_asg (ev_neg (ev_var rfl)) fun H4 e4 => ⟨?_, (e2.trans e3).trans e4⟩
        have ed : -d = ((d.natAbs : Nat) : Int) := by omega
        have en : -n = (if d < 0 then -1 else 1) * n := by rw [if_pos hb]; omega
        rw [← ed, ← en]
        rfl
      · have hb := of_decide_eq_false hb
        refine ⟨?_, e2⟩
        have ed : d = ((d.natAbs : Nat) : Int) := by omega
        have en : n = (if d < 0 then -1 else 1) * n := by rw [if_neg hb]; omega
        rw [← ed, ← en]
        rfl
    · obtain ⟨rfl, e⟩ := hM
      generalize hA : (if d < 0 then (-1 : Int) else 1) * n = A
      have hAn : A.natAbs = n.natAbs := by
        rw [← hA]
        split <;> omega
      refine q_asg (ev_call (ea_cons (ev_is (ev_abs (ev_var rfl)) (congrArg V.int (abs_int A))) (ea_cons (ev_var rfl) ea_nil)) (sv_of fun _ _ => ⟨A.natAbs, d.natAbs, rfl, rfl⟩)) fun H2 e2 => ?_
      rw [hAn]
      have g := gcd_pos_of (n := n) d0
      have gs : CDivW 0 ((Nat.gcd n.natAbs d.natAbs : Nat) : Int) := by
        have hle : Nat.gcd n.natAbs d.natAbs ≤ d.natAbs := Nat.le_of_dvd (by omega) (Nat.gcd_dvd_right _ _)
        exact wide_div (b := 9000) (by omega) (by show (((Nat.gcd n.natAbs d.natAbs : Nat) : Int)).natAbs < _; exact Nat.lt_of_le_of_lt (by omega) hd) (by decide) (by decide)
      refine s_retU (eu_tup (ea_cons (ev_iC (ev_var rfl) (ev_var rfl) gs) (ea_cons (ev_iC (ev_var rfl) (ev_var rfl) gs) ea_nil)) (Nat.le_of_ble_eq_true rfl)) fun p H3 hp e3 h3 => ?_
      refine k p H3 (fresh_back (e.trans e2) hp) ((e.trans e2).trans e3) ?_
      rw [h3, frac_eq d0]
      show some (HO.tup [V.int (A / ((Nat.gcd n.natAbs d.natAbs : Nat) : Int)), V.int (((d.natAbs : Nat) : Int) / ((Nat.gcd n.natAbs d.natAbs : Nat) : Int))]) = some (HO.tup [V.int _, V.int ((d.natAbs / Nat.gcd n.natAbs d.natAbs : Nat) : Int)])
      rw [hA]
      rfl
end
end Cw

/-! The walk through rates: a row shortened, a row without a column. -/
namespace Cw
open PySem PySem.Spec PyProof.Rows L2 Evl
def zV (r : List Int) : List V := r.map V.int
theorem zV_len (r : List Int) : (zV r).length = r.length := List.length_map _
theorem zV_get {r : List Int} {i : Nat} (h : i < r.length) : (zV r)[i]? = some (.int (r.getD i 0)) := by
  unfold zV
  rw [List.getElem?_map, List.getElem?_eq_getElem h, getD_get h]
  rfl
theorem zV_app (a b : List Int) : zV (a ++ b) = zV a ++ zV b := List.map_append
def gcdN (r : List Int) : Nat := r.foldl (fun d x => Nat.gcd x.natAbs d) 0
theorem gcdN_aux : ∀ (r : List Int) (d : Nat), (r.foldl (fun (d : Int) x => ((Nat.gcd x.natAbs d.natAbs : Nat) : Int)) (d : Int)) = ((r.foldl (fun d x => Nat.gcd x.natAbs d) d : Nat) : Int)
  | [], _ => rfl
  | x :: r, d => by
    rw [List.foldl_cons, List.foldl_cons, Int.natAbs_natCast]
    exact gcdN_aux r _
theorem gcdAll_eq (r : List Int) : gcdAll r = (gcdN r : Int) := gcdN_aux r 0
theorem take_more {α : Type} {l : List α} {i : Nat} {x : α} (h : l[i]? = some x) : l.take (i + 1) = l.take i ++ [x] := by
  rw [List.take_add_one, h]
  rfl
theorem gcdN_more {r : List Int} {i : Nat} {x : Int} (h : r[i]? = some x) : gcdN (r.take (i + 1)) = Nat.gcd x.natAbs (gcdN (r.take i)) := by
  unfold gcdN
  rw [take_more h, List.foldl_append]
  rfl
theorem zV_at {r : List Int} {i : Nat} {x : V} (h : (zV r)[i]? = some x) : ∃ z, r[i]? = some z ∧ x = .int z := by
  unfold zV at h
  rw [List.getElem?_map] at h
  cases e : r[i]? with
  | none => rw [e] at h; cases h
  | some z =>
    rw [e] at h
    exact ⟨z, rfl, (Option.some.inj h).symm⟩
theorem zV_mem {r : List Int} {x : V} (h : x ∈ zV r) : ∃ z, z ∈ r ∧ x = .int z := by
  obtain ⟨z, hz, rfl⟩ := List.mem_map.mp h
  exact ⟨z, hz, rfl⟩
/-- below 2 ^ k -/
def Bt (k : Nat) (z : Int) : Prop := z.natAbs < 2 ^ k
theorem Bt.mul {a b : Nat} {i j : Int} (ha : Bt a i) (hb : Bt b j) : Bt (a + b) (i * j) := wide_lt ha hb
theorem Bt.up {a b : Nat} {i : Int} (h : Bt a i) (hl : a ≤ b) : Bt b i := Nat.lt_of_lt_of_le h (Nat.pow_le_pow_right (by decide) hl)
theorem Bt.add {a : Nat} {i j : Int} (ha : Bt a i) (hb : Bt a j) : Bt (a + 1) (i + j) := by
  unfold Bt at *
  rw [Nat.pow_succ]
  omega
theorem Bt.sub {a : Nat} {i j : Int} (ha : Bt a i) (hb : Bt a j) : Bt (a + 1) (i - j) := by
  unfold Bt at *
  rw [Nat.pow_succ]
  omega
theorem Bt.neg {a : Nat} {i : Int} (ha : Bt a i) : Bt a (-i) := by
  unfold Bt at *
  rw [Int.natAbs_neg]
  exact ha
theorem Bt.cmul {a b : Nat} {i j : Int} (ha : Bt a i) (hb : Bt b j) (h0 : 0 < a) (h1 : 0 < b) (h : a + b ≤ 1000000) : CMulW i j := wide_mul ha hb h0 h1 h
theorem Bt.sm {a : Nat} {i : Int} (h : Bt a i) (hl : a ≤ 9000) : Sm i := h.up hl
section
variable {P : Program} {w : World} {K : PySem.W.Frag} {mg : Str → Option Value} {base : Heap} (T : Txt K mg)
def pShort : List V → Hp → List V → Prop := fun vs H xs => ∃ (p : Addr) (r : List Int), vs = [.ref p] ∧ H p = some (.lst (zV r)) ∧ (∀ x ∈ r, Sm x) ∧ r.length ≤ 1000 ∧ xs = zV (shortened r)
theorem ok_shortened : FnOk P w K mg base CX0 2 T.shortened.f T.shortened.fd ["row"] (spS pShort) := by
  refine T.shortened.F.ok sc_shortened (fun vs H Q E h => ?_) (fun cdv A outer s H vs Q E hr h => ?_)
  · obtain ⟨z, ⟨p, r, rfl, _⟩, _⟩ := h
    rfl
  · obtain ⟨z, ⟨p, r, rfl, hp, hs, hl, rfl⟩, k⟩ := h
    refine ⟨_, (pss_cons (ps_set (i := 1) sc_shortened.nd rfl (Or.inr rfl) pe_int)
    (pss_cons (ps_for PassesOwn.never rfl (pi_list (pv 0)) (pg_name (i := 2) sc_shortened.nd rfl (Or.inl rfl))
    (pss_one (ps_set (i := 1) sc_shortened.nd rfl (Or.inr rfl) (pe_call (ok_common_divisor T) (hr.mono (by decide)) (by rfl) T.common_divisor.g T.common_divisor.F.kp T.common_divisor.b .nil pass0 (pa_cons (pe_callB call_abs (by rfl) T.b_abs (by decide +kernel) (pa_cons (pv 2) pa_nil)) (pa_cons (pv 1) pa_nil))))))
    (pss_cons (ps_if (pt_cmpR op_eq (pv 1) pe_int (nomark _))
    (pss_one (ps_ret (pv 0))) pss_nil)
    (pss_one (ps_ret (pe_lc (own := [("number", 2)]) (g := gName 2) (tt := tYes) rfl sc_shortened.nd (pi_list (pv 0)) (blkOk_by (N := ["row", "divisor", "number"]) (sc := defScope tx_shortened) (by decide +kernel)) (fun _ _ _ _ _ => pg_name (i := 2) sc_shortened.nd rfl (Or.inl rfl)) (fun _ _ _ _ _ => pts_nil) (fun _ _ _ _ _ => (pe_op op_fdivW (pv 2) (pv 1))))))))), ?_⟩
    refine q_asg ev_c fun H1 e1 => ?_
    refine q_forLn (ev_var rfl) (SqL.of (e1 _ _ hp)) (fun i σ' H' => ∃ o, σ' = [some (.ref p), some (.int ((gcdN (r.take i) : Nat) : Int)), o] ∧ Ex H H') (fun H2 e2 => ⟨none, rfl, e1.trans e2⟩) (fun i σ' H' _ hP => ?_) (fun i x σ' H' hi hP => ?_) (fun σ' H' hP => ?_)
    · obtain ⟨o, _, e⟩ := hP
      exact SqL.of (e _ _ hp)
    · obtain ⟨o, rfl, e⟩ := hP
      obtain ⟨z, hz, rfl⟩ := zV_at hi
      refine s_asg (ev_call (ea_cons (ev_is (ev_abs (ev_var rfl)) (congrArg V.int (abs_int z))) (ea_cons (ev_var rfl) ea_nil)) (sv_of fun _ _ => ⟨z.natAbs, gcdN (r.take i), rfl, rfl⟩)) fun H2 e2 => ⟨some (.int z), ?_, e.trans e2⟩
      rw [gcdN_more hz]
      rfl
    · obtain ⟨o, rfl, e⟩ := hP
      rw [zV_len, List.take_length]
      refine q_when (et_test (ev_eqI (ev_var rfl) ev_c)) (fun hb H2 e2 => ?_) (fun hb H2 e2 => ?_)
      · have hb : ((gcdN r : Nat) : Int) = 0 := beq_iff_eq.mp hb
        have es : shortened r = r := if_pos (by rw [gcdAll_eq]; exact hb)
        rw [es] at k
        exact s_ret (ev_var rfl) fun H3 e3 => k p H3 ((e.trans e2).trans e3) (((e.trans e2).trans e3) _ _ hp)
      · have hb : ¬ ((gcdN r : Nat) : Int) = 0 := by simpa using hb
        have es : shortened r = r.map (· / gcdAll r) := if_neg (by rw [gcdAll_eq]; exact hb)
        rw [es] at k
        have g0 : (0 : Int) < ((gcdN r : Nat) : Int) := by omega
        have gs : CDivW 0 ((gcdN r : Nat) : Int) := by
          -- some number of the row isn't 0: the divisor is no more than it
          have hne : ∃ x, x ∈ r ∧ x ≠ 0 := Classical.byContradiction fun z => by
            have all0 : ∀ x ∈ r, x = 0 := fun x hx => Classical.byContradiction fun q => z ⟨x, hx, q⟩
            have dv : ((0 : Nat) : Int) ∣ gcdAll r := dvd_gcdAll fun x hx => by rw [all0 x hx]; exact Int.dvd_zero _
            have : gcdAll r = 0 := by
              obtain ⟨q, hq⟩ := dv
              simp at hq
              exact hq
            rw [gcdAll_eq] at this
            exact hb this
          obtain ⟨x, hx, x0⟩ := hne
          have dv := gcdAll_dvd r x hx
          rw [gcdAll_eq, Int.ofNat_dvd_left] at dv
          have le := Nat.le_of_dvd (by omega) dv
          have sx := hs x hx
          exact wide_div (b := 9000) g0 (by show (((gcdN r : Nat) : Int)).natAbs < _; exact Nat.lt_of_le_of_lt (by omega) sx) (by decide) (by decide)
        refine s_retL (el_map (K := K) (fun x => match x with | .int z => .int (z / ((gcdN r : Nat) : Int)) | _ => x) (ev_var rfl) (SqL.of ((e.trans e2) _ _ hp)) (by rw [zV_len]; omega) (fun _ => rfl) (fun x H3 e3 hx => ?_)) fun q H3 hq e3 h3 => k q H3 ((e.trans e2).trans e3) ?_
        · obtain ⟨z, _, rfl⟩ := zV_mem hx
          exact ev_iC (ev_var rfl) (ev_var rfl) gs
        · rw [h3, gcdAll_eq]
          unfold zV
          rw [List.map_map, List.map_map]
          rfl
/-- numbers of the rows: below 2 ^ 460 -/
def Row460 (r : List Int) : Prop := ∀ x ∈ r, Bt 460 x
theorem Row460.get {r : List Int} (h : Row460 r) (j : Nat) : Bt 460 (r.getD j 0) := by
  by_cases hj : j < r.length
  · rw [getD_get hj]
    exact h _ (List.getElem_mem hj)
  · rw [List.getD_eq_getElem?_getD, List.getElem?_eq_none (by omega)]
    show (0 : Int).natAbs < 2 ^ 460
    decide +kernel
theorem raw_get {row pivot : List Int} {c j : Nat} (h : j < row.length) : (rawOf row pivot c)[j]? = some (row.getD j 0 * pivot.getD c 0 - pivot.getD j 0 * row.getD c 0) := by
  unfold rawOf
  rw [List.getElem?_map, List.getElem?_range h]
  rfl
theorem raw_sm {row pivot : List Int} {c : Nat} (h1 : Row460 row) (h2 : Row460 pivot) : ∀ x ∈ rawOf row pivot c, Sm x := fun x hx => by
  obtain ⟨j, hj, rfl⟩ := List.mem_map.mp hx
  exact (((h1.get j).mul (h2.get c)).sub ((h2.get j).mul (h1.get c))).sm (by decide)
def pWithout : List V → Hp → List V → Prop := fun vs H xs => ∃ (p q : Addr) (row pivot : List Int) (c : Nat), vs = [.ref p, .ref q, .int c] ∧ H p = some (.lst (zV row)) ∧ H q = some (.lst (zV pivot)) ∧ row.length = pivot.length ∧ row.length ≤ 1000 ∧ c < row.length ∧
  Row460 row ∧ Row460 pivot ∧ xs = zV (without row pivot c)
theorem ok_without : FnOk P w K mg base CX0 3 T.without.f T.without.fd ["row", "pivot", "column"] (spS pWithout) := by
  refine T.without.F.ok sc_without (fun vs H Q E h => ?_) (fun cdv A outer s H vs Q E hr h => ?_)
  · obtain ⟨z, ⟨p, q, row, pivot, c, rfl, _⟩, _⟩ := h
    rfl
  · obtain ⟨z, ⟨p, q, row, pivot, c, rfl, hp, hq, hlen, hl, hc, r1, r2, rfl⟩, k⟩ := h
    refine ⟨_, (pss_cons (ps_set (i := 3) sc_without.nd rfl (Or.inl rfl) (pe_lst pa_nil))
    (pss_cons (ps_for PassesOwn.never rfl (pi_range1 (by rfl) T.b_range (pa_cons (pe_callB call_len_seq (by rfl) T.b_len (by decide +kernel) (pa_cons (pv 0) pa_nil)) pa_nil)) (pg_name (i := 4) sc_without.nd rfl (Or.inl rfl))
    (pss_one (ps_expr (pe_bm PySem.F.plainAttrs_list PySem.F.slot_list_append PySem.F.type_list_append mt_append (pv 3) (pa_cons (pe_op op_sub (pe_op op_mulW (pe_ix ix_list (pv 0) (pv 4) (fun _ _ => rfl)) (pe_ix ix_list (pv 1) (pv 2) (fun _ _ => rfl))) (pe_op op_mulW (pe_ix ix_list (pv 1) (pv 4) (fun _ _ => rfl)) (pe_ix ix_list (pv 0) (pv 2) (fun _ _ => rfl)))) pa_nil)))))
    (pss_one (ps_ret (pe_call (ok_shortened T) (hr.mono (by decide)) (by rfl) T.shortened.g T.shortened.F.kp T.shortened.b .nil pass0 (pa_cons (pv 3) pa_nil)))))), ?_⟩
    refine q_asgL (el_lst ea_nil (Nat.zero_le _)) fun l H1 nl e1 h1 => ?_
    refine q_forR1 (n := (row.length : Int)) (ea_cons (ev_is (ev_len (ev_var rfl) (SqL.of (e1 _ _ hp))) (by rw [zV_len])) ea_nil) ⟨by omega, by omega⟩
      (fun i σ' H' => ∃ o, σ' = [some (.ref p), some (.ref q), some (.int c), some (.ref l), o] ∧ Ex H H' ∧ H' l = some (.lst (zV ((rawOf row pivot c).take i)))) (fun H2 e2 => ⟨none, rfl, e1.trans e2, e2 _ _ h1⟩) (fun i σ' H' hi hP => ?_) (fun σ' H' hP => ?_)
    · obtain ⟨o, rfl, e, hl'⟩ := hP
      have hi' : i < row.length := by omega
      have gp : ∀ H2, Ex H' H2 → SqL K H2 p (zV row) := fun H2 e2 => SqL.of ((e.trans e2) _ _ hp)
      have gq : ∀ H2, Ex H' H2 → SqL K H2 q (zV pivot) := fun H2 e2 => SqL.of ((e.trans e2) _ _ hq)
      refine s_app (K := K) hl' (ev_var rfl) (ev_i (ev_iC (ev_ixL (ev_var rfl) (ev_var rfl) (gp _ (Ex.refl _)) rfl (zV_get hi')) (ev_ixL (ev_var rfl) (ev_var rfl) (gq _ (Ex.refl _)) rfl (zV_get (by omega))) ((r1.get i).cmul (r2.get c) (by decide) (by decide) (by decide)))
        (ev_iC (ev_ixL (ev_var rfl) (ev_var rfl) (gq _ (Ex.refl _)) rfl (zV_get (by omega))) (ev_ixL (ev_var rfl) (ev_var rfl) (gp _ (Ex.refl _)) rfl (zV_get hc)) ((r2.get i).cmul (r1.get c) (by decide) (by decide) (by decide)))) ?_ fun H2 e2 => ⟨some (.int i), rfl, Ex.mut (e.trans e2) nl, ?_⟩
      · rw [zV_len, List.length_take]
        omega
      · rw [upd_same, take_more (raw_get hi'), zV_app]
        rfl
    · obtain ⟨o, rfl, e, hl'⟩ := hP
      have et : (rawOf row pivot c).take ((row.length : Int)).toNat = rawOf row pivot c := List.take_of_length_le (by rw [raw_len]; omega)
      rw [et] at hl'
      exact s_retS (es_call (ea_cons (ev_var rfl) ea_nil) fun H2 e2 => ⟨l, rawOf row pivot c, rfl, e2 _ _ hl', raw_sm r1 r2, by rw [raw_len]; exact hl, rfl⟩) fun q' H2 e2 h2 => k q' H2 (e.trans e2) h2
end
end Cw

/-! The walk through rates: all rows. -/
namespace Cw
open PySem PySem.Spec PyProof.Rows L2 Evl
def refV (l : List Addr) : List V := l.map V.ref
theorem refV_len (l : List Addr) : (refV l).length = l.length := List.length_map _
theorem refV_at {l : List Addr} {i : Nat} {x : V} (h : (refV l)[i]? = some x) : ∃ a, l[i]? = some a ∧ x = .ref a := by
  unfold refV at h
  rw [List.getElem?_map] at h
  cases e : l[i]? with
  | none => rw [e] at h; cases h
  | some z =>
    rw [e] at h
    exact ⟨z, rfl, (Option.some.inj h).symm⟩
theorem refV_get {l : List Addr} {i : Nat} {a : Addr} (h : l[i]? = some a) : (refV l)[i]? = some (.ref a) := by
  unfold refV
  rw [List.getElem?_map, h]
  rfl
/-- the rows stand at their addresses -/
structure RowsAt (H : Hp) (ps : List Addr) (rows : List (List Int)) : Prop where
  len : ps.length = rows.length
  at_ : ∀ (i : Nat) (a : Addr) (r : List Int), ps[i]? = some a → rows[i]? = some r → H a = some (.lst (zV r))
theorem RowsAt.ex {H H' : Hp} {ps : List Addr} {rows : List (List Int)} (h : RowsAt H ps rows) (e : Ex H H') : RowsAt H' ps rows := ⟨h.len, fun i a r x y => e _ _ (h.at_ i a r x y)⟩
theorem RowsAt.get {H : Hp} {ps : List Addr} {rows : List (List Int)} (h : RowsAt H ps rows) {i : Nat} (hi : i < rows.length) : ∃ a, ps[i]? = some a ∧ H a = some (.lst (zV (rows.getD i []))) := by
  have hp : i < ps.length := by rw [h.len]; exact hi
  exact ⟨ps[i], List.getElem?_eq_getElem hp, h.at_ i _ _ (List.getElem?_eq_getElem hp) (by rw [getD_get hi]; exact List.getElem?_eq_getElem hi)⟩
theorem rowWith_found {rows : List (List Int)} {s c p : Nat} (hp : p < rows.length) (hs : s ≤ p) (h0 : at2 rows p c ≠ 0) (hz : ∀ q, s ≤ q → q < p → at2 rows q c = 0) : rowWith rows s c = some p := by
  unfold rowWith
  rw [List.find?_range_eq_some]
  refine ⟨?_, by simpa using hp, fun j hj => ?_⟩
  · simp [hs, h0]
  · by_cases hsj : s ≤ j
    · simp [hz j hsj hj]
    · simp [hsj]
theorem rowWith_not {rows : List (List Int)} {s c : Nat} (hz : ∀ q, s ≤ q → q < rows.length → at2 rows q c = 0) : rowWith rows s c = none := by
  unfold rowWith
  rw [List.find?_eq_none]
  intro j hj
  have hj : j < rows.length := by simpa using hj
  by_cases hsj : s ≤ j
  · simp [hz j hsj hj]
  · simp [hsj]
def placeZ (o : Option Nat) : Int := match o with
  | some p => p
  | none => -1
section
variable {P : Program} {w : World} {K : PySem.W.Frag} {mg : Str → Option Value} {base : Heap} (T : Txt K mg)
def pRowWith : List V → Hp → V → Prop := fun vs H z => ∃ (p : Addr) (ps : List Addr) (rows : List (List Int)) (s c : Nat), vs = [.ref p, .int s, .int c] ∧ H p = some (.lst (refV ps)) ∧ RowsAt H ps rows ∧ s ≤ rows.length ∧ rows.length ≤ 1000 ∧ (∀ r ∈ rows, c < r.length) ∧ z = .int (placeZ (rowWith rows s c))
theorem ok_row_with : FnOk P w K mg base CX0 1 T.row_with.f T.row_with.fd ["rows", "start", "column"] (spV pRowWith) := by
  refine T.row_with.F.ok sc_row_with (fun vs H Q E h => ?_) (fun cdv A outer s H vs Q E hr h => ?_)
  · obtain ⟨z, ⟨p, ps, rows, s, c, rfl, _⟩, _⟩ := h
    rfl
  · obtain ⟨z, ⟨p, ps, rows, st, c, rfl, hp, hR, hs, hl, hc, rfl⟩, k⟩ := h
    refine ⟨_, (pss_cons (ps_for PassesOwn.never rfl (pi_range2 (by rfl) T.b_range (pa_cons (pv 1) (pa_cons (pe_callB call_len_seq (by rfl) T.b_len (by decide +kernel) (pa_cons (pv 0) pa_nil)) pa_nil))) (pg_name (i := 3) sc_row_with.nd rfl (Or.inl rfl))
    (pss_one (ps_if (pt_cmpR op_ne (pe_ix ix_list (pe_ix ix_list (pv 0) (pv 3) (fun _ _ => rfl)) (pv 2) (fun _ _ => rfl)) pe_int (nomark _))
    (pss_one (ps_ret (pv 3))) pss_nil)))
    (pss_one (ps_ret (pe_un un_neg pe_int)))), ?_⟩
    refine q_forR2 (lo := (st : Int)) (n := (rows.length : Int)) (ea_cons (ev_var rfl) (ea_cons (ev_is (ev_len (ev_var rfl) (SqL.of hp)) (by rw [refV_len, hR.len])) ea_nil)) ⟨by omega, by omega, by omega, by omega⟩
      (fun i σ' H' => ∃ o, σ' = [some (.ref p), some (.int st), some (.int c), o] ∧ Ex H H' ∧ ∀ q, st ≤ q → q < st + i → at2 rows q c = 0) (fun H2 e2 => ⟨none, rfl, e2, fun q h1 h2 => by omega⟩) (fun i σ' H' hi hP => ?_) (fun σ' H' hP => ?_)
    · obtain ⟨o, rfl, e, hz⟩ := hP
      have hi' : st + i < rows.length := by omega
      obtain ⟨a, ha, hra⟩ := hR.get hi'
      have ei : (st : Int) + (i : Int) = ((st + i : Nat) : Int) := by omega
      rw [ei]
      have hcl : c < (rows.getD (st + i) []).length := by
        rw [getD_get hi']
        exact hc _ (List.getElem_mem hi')
      refine s_when (et_test (ev_neI (ev_ixL (ev_ixL (ev_var rfl) (ev_var rfl) (SqL.of (e _ _ hp)) rfl (refV_get ha)) (ev_var rfl) (SqL.of (e _ _ hra)) rfl (zV_get hcl)) ev_c)) (fun hb H2 e2 => ?_) (fun hb H2 e2 => ?_)
      · have hb : ¬ (rows.getD (st + i) []).getD c 0 = 0 := by simpa using hb
        rw [rowWith_found hi' (by omega) hb (fun q h1 h2 => hz q h1 h2)] at k
        exact s_ret (ev_var rfl) fun H3 e3 => k H3 ((e.trans e2).trans e3)
      · have hb : (rows.getD (st + i) []).getD c 0 = 0 := by simpa using hb
        refine ⟨some (.int ((st + i : Nat) : Int)), rfl, e.trans e2, fun q h1 h2 => ?_⟩
        by_cases eq : q = st + i
        · rw [eq]; exact hb
        · exact hz q h1 (by omega)
    · obtain ⟨o, rfl, e, hz⟩ := hP
      rw [rowWith_not (fun q h1 h2 => hz q h1 (by omega))] at k
      exact s_ret (ev_neg ev_c) fun H3 e3 => k H3 (e.trans e3)
/-- the columns used, as the program has them -/
def usedV (r : List Int) : List Int := (used r).map fun (j : Nat) => (j : Int)
def pUsed : List V → Hp → List V → Prop := fun vs H xs => ∃ (p : Addr) (r : List Int), vs = [.ref p] ∧ H p = some (.lst (zV r)) ∧ 1 ≤ r.length ∧ r.length ≤ 1000 ∧ xs = zV (usedV r)
theorem ok_columns_used : FnOk P w K mg base CX0 1 T.columns_used.f T.columns_used.fd ["row"] (spL pUsed) := by
  refine T.columns_used.F.ok sc_columns_used (fun vs H Q E h => ?_) (fun cdv A outer s H vs Q E hr h => ?_)
  · obtain ⟨z, ⟨p, r, rfl, _⟩, _⟩ := h
    rfl
  · obtain ⟨z, ⟨p, r, rfl, hp, h1, hl, rfl⟩, k⟩ := h
    refine ⟨_, (pss_one (ps_ret (pe_lc (own := [("column", 1)]) (g := gName 1) rfl sc_columns_used.nd (pi_range1 (by rfl) T.b_range (pa_cons (pe_op op_sub (pe_callB call_len_seq (by rfl) T.b_len (by decide +kernel) (pa_cons (pv 0) pa_nil)) pe_int) pa_nil)) (blkOk_by (N := ["row", "column"]) (sc := defScope tx_columns_used) (by decide +kernel)) (fun _ _ _ _ _ => pg_name (i := 1) sc_columns_used.nd rfl (Or.inl rfl)) (fun _ _ _ _ _ => (pts_one (pt_cmpR op_ne (pe_ix (ix_listK (K := K) rfl) (pv 0) (pv 1) (fun _ _ => rfl)) pe_int (nomark _)))) (fun _ _ _ _ _ => (pv 1))))), ?_⟩
    refine s_retL (el_lcR1 (n := ((r.length - 1 : Nat) : Int)) (fun j => decide (r.getD j 0 ≠ 0)) (fun j => .int j) (ea_cons (ev_is (ev_i (ev_len (ev_var rfl) (SqL.of hp)) ev_c) (congrArg V.int (by rw [zV_len]; omega))) ea_nil) ⟨by omega, by omega⟩ (fun _ => rfl) (fun i H1 e1 hi => ?_) (fun i H1 e1 hi hf => ev_var rfl)) fun q H3 hq e3 h3 => k q H3 hq e3 ?_
    · refine et_is (et_test (ev_neI (ev_ixL (ev_var rfl) (ev_var rfl) (SqL.of (e1 _ _ hp)) rfl (zV_get (by omega))) ev_c)) ?_
      by_cases h0 : r.getD i 0 = 0
      · rw [h0]; rfl
      · rw [decide_eq_true h0]
        have : (r.getD i 0 == 0) = false := by simpa using h0
        rw [this]
        rfl
    · rw [h3]
      unfold given usedV used zV
      rw [List.map_map]
      rfl
theorem used_zero (r : List Int) : (((zV (usedV r)).length : Int) == 0) = decide ((used r).length = 0) := by
  have : (zV (usedV r)).length = (used r).length := by simp [zV, usedV]
  rw [this]
  by_cases h : (used r).length = 0
  · rw [h]; rfl
  · rw [decide_eq_false h]
    have : ¬ (((used r).length : Nat) : Int) = 0 := by omega
    simpa using this
theorem used_is (r : List Int) (c : Nat) : decide (usedV r = [(c : Int)]) = (used r == [c]) := by
  unfold usedV
  have inj : ∀ a b : List Nat, a.map (fun (j : Nat) => (j : Int)) = b.map (fun (j : Nat) => (j : Int)) → a = b := fun a b h => by
    have h2 := congrArg (List.map Int.toNat) h
    have e : ∀ l : List Nat, (l.map fun (j : Nat) => (j : Int)).map Int.toNat = l := fun l => by
      rw [List.map_map]
      exact List.map_id' l
    rw [e, e] at h2
    exact h2
  by_cases h : used r = [c]
  · rw [h]
    simp
  · have h2 : ¬ (used r).map (fun (j : Nat) => (j : Int)) = [(c : Int)] := fun z => h (inj _ [c] z)
    rw [decide_eq_false h2]
    have : (used r == [c]) = false := by simpa using h
    rw [this]
def pLocked : List V → Hp → V → Prop := fun vs H z => ∃ (p : Addr) (ps : List Addr) (rows : List (List Int)), vs = [.ref p] ∧ H p = some (.lst (refV ps)) ∧ RowsAt H ps rows ∧ (∀ r ∈ rows, 1 ≤ r.length ∧ r.length ≤ 1000) ∧ z = .bl (areLocked rows)
theorem ev_lastOf {σ : L2.St} {H : Hp} {ta tb : TE} {p : Addr} {r : List Int} (ha : Ev ta σ H (.ref p)) (hb : Ev tb σ H (.ref p)) (hp : H p = some (.lst (zV r))) (h1 : 1 ≤ r.length) :
    Ev (tOp (rIxL K) ta (tOp (rI0 fun i j => .int (i - j)) (tCB (rLenS K) (tCons tb tNil)) (tC (.int 1)))) σ H (.int (lastOf r)) :=
  ev_ixL (j := r.length - 1) ha (ev_i (ev_len hb (SqL.of hp)) ev_c) (SqL.of hp) (by rw [zV_len]; omega) (zV_get (by omega))
theorem ok_are_locked : FnOk P w K mg base CX0 2 T.are_locked.f T.are_locked.fd ["rows"] (spV pLocked) := by
  refine T.are_locked.F.ok sc_are_locked (fun vs H Q E h => ?_) (fun cdv A outer s H vs Q E hr h => ?_)
  · obtain ⟨z, ⟨p, ps, rows, rfl, _⟩, _⟩ := h
    rfl
  · obtain ⟨z, ⟨p, ps, rows, rfl, hp, hR, hl, rfl⟩, k⟩ := h
    refine ⟨_, (pss_cons (ps_for PassesOwn.never rfl (pi_list (pv 0)) (pg_name (i := 1) sc_are_locked.nd rfl (Or.inl rfl))
    (pss_one (ps_if (PW.pt (pw_and (pt_cmpR op_eq (pe_callB call_len_seq (by rfl) T.b_len (by decide +kernel) (pa_cons (pe_call (ok_columns_used T) (hr.mono (by decide)) (by rfl) T.columns_used.g T.columns_used.F.kp T.columns_used.b .nil pass0 (pa_cons (pv 1) pa_nil)) pa_nil)) pe_int (nomark _)) (pw_and1 (pt_cmpR op_ne (pe_ix ix_list (pv 1) (pe_op op_sub (pe_callB call_len_seq (by rfl) T.b_len (by decide +kernel) (pa_cons (pv 1) pa_nil)) pe_int) (fun _ _ => rfl)) pe_int (nomark _)))))
    (pss_one (ps_ret pe_bl)) pss_nil)))
    (pss_one (ps_ret pe_bl))), ?_⟩
    refine q_forLn (ev_var rfl) (SqL.of hp) (fun i σ' H' => ∃ o, σ' = [some (.ref p), o] ∧ Ex H H' ∧ areLocked (rows.take i) = false) (fun H2 e2 => ⟨none, rfl, e2, rfl⟩) (fun i σ' H' _ hP => ?_) (fun i x σ' H' hi hP => ?_) (fun σ' H' hP => ?_)
    · obtain ⟨o, _, e, _⟩ := hP
      exact SqL.of (e _ _ hp)
    · obtain ⟨o, rfl, e, hz⟩ := hP
      obtain ⟨a, ha, rfl⟩ := refV_at hi
      have hi' : i < rows.length := by
        rw [← hR.len]
        exact (List.getElem?_eq_some_iff.mp ha).1
      have er : rows[i]? = some rows[i] := List.getElem?_eq_getElem hi'
      have hra := e _ _ (hR.at_ i a _ ha er)
      obtain ⟨l1, l2⟩ := hl _ (List.getElem_mem hi')
      refine s_when (et_and (et_test (ev_is (ev_eqI (ev_lenN (el_call (ea_cons (ev_var rfl) ea_nil) (sl_of fun H1 e1 => ⟨a, rows[i], rfl, e1 _ _ hra, l1, l2, rfl⟩))) ev_c) (congrArg V.bl (used_zero rows[i])))) fun _ => et_test (ev_neI (ev_lastOf (ev_var rfl) (ev_var rfl) hra l1) ev_c)) (fun hb H2 e2 => ?_) (fun hb H2 e2 => ?_)
      · have : areLocked rows = true := by
          unfold areLocked
          rw [List.any_eq_true]
          refine ⟨rows[i], List.getElem_mem hi', ?_⟩
          rw [← hb]
          congr 1
          by_cases h0 : lastOf rows[i] = 0
          · rw [h0]; rfl
          · rw [decide_eq_true h0]
            have : (lastOf rows[i] == 0) = false := by simpa using h0
            rw [this]; rfl
        rw [this] at k
        exact s_ret ev_c fun H3 e3 => k H3 ((e.trans e2).trans e3)
      · refine ⟨some (.ref a), rfl, e.trans e2, ?_⟩
        unfold areLocked at hz ⊢
        rw [take_more er, List.any_append, hz]
        simp only [List.any_cons, List.any_nil, Bool.or_false, Bool.false_or]
        rw [← hb]
        congr 1
        by_cases h0 : lastOf rows[i] = 0
        · rw [h0]; rfl
        · rw [decide_eq_true h0]
          have : (lastOf rows[i] == 0) = false := by simpa using h0
          rw [this]; rfl
    · obtain ⟨o, rfl, e, hz⟩ := hP
      rw [refV_len, hR.len, List.take_length] at hz
      rw [hz] at k
      exact s_ret ev_c fun H3 e3 => k H3 (e.trans e3)
/-- an arbor's rate, or None -/
def spRateIn : Sp := fun vs H Q _ => ∃ (p : Addr) (ps : List Addr) (rows : List (List Int)) (c : Nat), vs = [.ref p, .int c] ∧ H p = some (.lst (refV ps)) ∧ RowsAt H ps rows ∧ (∀ r ∈ rows, 1 ≤ r.length ∧ r.length ≤ 1000 ∧ Row460 r) ∧
  (rateIn rows c = none → ∀ H2, Ex H H2 → Q .non H2) ∧ (∀ q, rateIn rows c = some q → ∀ t H2, Ex H H2 → H2 t = some (.tup (fracV q)) → Q (.ref t) H2)
theorem used_ne {r : List Int} {c : Nat} (h : used r = [c]) : c < r.length ∧ r.getD c 0 ≠ 0 := by
  have m : c ∈ used r := by rw [h]; exact List.mem_cons_self ..
  unfold used at m
  obtain ⟨a, b⟩ := List.mem_filter.mp m
  have a : c < r.length - 1 := by simpa using a
  exact ⟨by omega, by simpa using b⟩
theorem ok_rate_in : FnOk P w K mg base CX0 3 T.rate_in.f T.rate_in.fd ["rows", "column"] spRateIn := by
  refine T.rate_in.F.ok sc_rate_in (fun vs H Q E h => ?_) (fun cdv A outer s H vs Q E hr h => ?_)
  · obtain ⟨p, ps, rows, c, rfl, _⟩ := h
    rfl
  · obtain ⟨p, ps, rows, c, rfl, hp, hR, hl, kN, kS⟩ := h
    refine ⟨_, (pss_cons (ps_for PassesOwn.never rfl (pi_list (pv 0)) (pg_name (i := 2) sc_rate_in.nd rfl (Or.inl rfl))
    (pss_one (ps_if (pt_cmpR (op_eqD hr.units) (pe_call (ok_columns_used T) (hr.mono (by decide)) (by rfl) T.columns_used.g T.columns_used.F.kp T.columns_used.b .nil pass0 (pa_cons (pv 2) pa_nil)) (pe_lst (pa_cons (pv 1) pa_nil)) (nomark _))
    (pss_one (ps_ret (pe_call (ok_lowest T) (hr.mono (by decide)) (by rfl) T.lowest.g T.lowest.F.kp T.lowest.b .nil pass0 (pa_cons (pe_ix ix_list (pv 2) (pe_op op_sub (pe_callB call_len_seq (by rfl) T.b_len (by decide +kernel) (pa_cons (pv 2) pa_nil)) pe_int) (fun _ _ => rfl)) (pa_cons (pe_ix ix_list (pv 2) (pv 1) (fun _ _ => rfl)) pa_nil))))) pss_nil)))
    (pss_one (ps_ret pe_non))), ?_⟩
    refine q_forLn (ev_var rfl) (SqL.of hp) (fun i σ' H' => ∃ o, σ' = [some (.ref p), some (.int c), o] ∧ Ex H H' ∧ ((rows.take i).find? fun r => used r == [c]) = none) (fun H2 e2 => ⟨none, rfl, e2, rfl⟩) (fun i σ' H' _ hP => ?_) (fun i x σ' H' hi hP => ?_) (fun σ' H' hP => ?_)
    · obtain ⟨o, _, e, _⟩ := hP
      exact SqL.of (e _ _ hp)
    · obtain ⟨o, rfl, e, hz⟩ := hP
      obtain ⟨a, ha, rfl⟩ := refV_at hi
      have hi' : i < rows.length := by
        rw [← hR.len]
        exact (List.getElem?_eq_some_iff.mp ha).1
      have er : rows[i]? = some rows[i] := List.getElem?_eq_getElem hi'
      have hra := e _ _ (hR.at_ i a _ ha er)
      obtain ⟨l1, l2, l3⟩ := hl _ (List.getElem_mem hi')
      have fd : (rows.take (i + 1)).find? (fun r => used r == [c]) = if (used rows[i] == [c]) = true then some rows[i] else none := by
        rw [take_more er, List.find?_append, hz]
        simp only [Option.none_or, List.find?_cons, List.find?_nil]
        cases used rows[i] == [c] <;> rfl
      refine s_when (et_test (ev_is (ev_eqNN (a := usedV rows[i]) (b := [(c : Int)]) (el_call (ea_cons (ev_var rfl) ea_nil) (sl_of fun H1 e1 => ⟨a, rows[i], rfl, e1 _ _ hra, l1, l2, rfl⟩)) (el_lst (ea_cons (ev_var rfl) ea_nil) (Nat.le_of_ble_eq_true rfl))) (congrArg V.bl (used_is rows[i] c)))) (fun hb H2 e2 => ?_) (fun hb H2 e2 => ?_)
      · have hu : used rows[i] = [c] := by simpa using hb
        obtain ⟨cl, c0⟩ := used_ne hu
        have hf : rateIn rows c = some (Mu07.frac (lastOf rows[i]) (rows[i].getD c 0)) := by
          unfold rateIn
          have e1 : ((rows.take (i + 1) ++ rows.drop (i + 1)).find? fun r => used r == [c]) = some rows[i] := by
            rw [List.find?_append, fd, if_pos hb]
            rfl
          rw [List.take_append_drop] at e1
          rw [e1]
          rfl
        have hra2 := e2 _ _ hra
        refine s_retU (eu_call (ea_cons (ev_lastOf (ev_var rfl) (ev_var rfl) hra2 l1) (ea_cons (ev_ixL (ev_var rfl) (ev_var rfl) (SqL.of hra2) rfl (zV_get cl)) ea_nil)) (su_of fun _ _ => ⟨_, _, rfl, c0, (l3.get c).sm (by decide), rfl⟩)) fun t H3 ht e3 h3 => kS _ hf t H3 ((e.trans e2).trans e3) h3
      · refine ⟨some (.ref a), rfl, e.trans e2, ?_⟩
        rw [fd, if_neg (by rw [hb]; decide)]
    · obtain ⟨o, rfl, e, hz⟩ := hP
      rw [refV_len, hR.len, List.take_length] at hz
      have hn : rateIn rows c = none := by
        unfold rateIn
        rw [hz]
        rfl
      exact s_ret ev_c fun H3 e3 => kN hn H3 (e.trans e3)
end
end Cw

/-! The walk through rates: the rows reduced. -/
namespace Cw
open PySem PySem.Spec PyProof.Rows L2 Evl
/-- all but what stands at l is as it was -/
def ExB (l : Addr) (H H' : Hp) : Prop := ∀ b o, b ≠ l → H b = some o → H' b = some o
theorem ExB.refl (l : Addr) (H : Hp) : ExB l H H := fun _ _ _ h => h
theorem ExB.trans {l : Addr} {H H1 H2 : Hp} (a : ExB l H H1) (b : ExB l H1 H2) : ExB l H H2 := fun c o n h => b c o n (a c o n h)
theorem ExB.of {l : Addr} {H H' : Hp} (e : Ex H H') : ExB l H H' := fun b o _ h => e b o h
theorem ExB.upd (l : Addr) (H : Hp) (o : HO) : ExB l H (L2.upd H l o) := fun b u n h => by rw [upd_ne n]; exact h
theorem ExB.ex {l : Addr} {H0 H H' : Hp} (e : Ex H0 H) (n : H0 l = none) (b : ExB l H H') : Ex H0 H' := fun a o h => b a o (ne_of_none h n) (e a o h)
theorem row_ne {H : Hp} {a l : Addr} {r : List Int} {ps : List Addr} (ha : H a = some (.lst (zV r))) (hl : H l = some (.lst (refV ps))) (h : 1 ≤ r.length) : a ≠ l := fun e => by
  subst e
  rw [ha] at hl
  cases r with
  | nil => simp at h
  | cons x r =>
    cases ps with
    | nil =>
      have : HO.lst (zV (x :: r)) = HO.lst (refV []) := Option.some.inj hl
      have e2 : zV (x :: r) = refV [] := by injection this
      cases e2
    | cons q ps =>
      have : HO.lst (zV (x :: r)) = HO.lst (refV (q :: ps)) := Option.some.inj hl
      have e2 : V.int x :: zV r = V.ref q :: refV ps := by injection this
      cases e2
theorem RowsAt.exB {l : Addr} {H H' : Hp} {ps : List Addr} {rows : List (List Int)} (h : RowsAt H ps rows) (hl : ∃ qs, H l = some (.lst (refV qs))) (h1 : ∀ r ∈ rows, 1 ≤ r.length) (e : ExB l H H') : RowsAt H' ps rows :=
  ⟨h.len, fun i a r x y => by
    obtain ⟨qs, hl⟩ := hl
    exact e _ _ (row_ne (h.at_ i a r x y) hl (h1 r (List.mem_of_getElem? y))) (h.at_ i a r x y)⟩
theorem refV_set (l : List Addr) (i : Nat) (a : Addr) : (refV l).set i (.ref a) = refV (l.set i a) := by
  unfold refV
  rw [List.map_set]
theorem RowsAt.set {H : Hp} {ps : List Addr} {rows : List (List Int)} {i : Nat} {a : Addr} {r : List Int} (h : RowsAt H ps rows) (ha : H a = some (.lst (zV r))) : RowsAt H (ps.set i a) (rows.set i r) := by
  refine ⟨by rw [List.length_set, List.length_set]; exact h.len, fun j b q hb hq => ?_⟩
  by_cases e : i = j
  · subst e
    have h1 : i < ps.length := by
      have := (List.getElem?_eq_some_iff.mp hb).1
      rwa [List.length_set] at this
    have h2 : i < rows.length := by rw [← h.len]; exact h1
    rw [List.getElem?_set_self h1] at hb
    rw [List.getElem?_set_self h2] at hq
    obtain rfl := Option.some.inj hb
    obtain rfl := Option.some.inj hq
    exact ha
  · rw [List.getElem?_set_ne e] at hb hq
    exact h.at_ j b q hb hq
/-- the rows ahead of o are cleared -/
def partly (f : Nat → List Int → List Int) (o : Nat) (l : List (List Int)) : List (List Int) := l.mapIdx fun j r => if j < o then f j r else r
theorem partly_zero (f : Nat → List Int → List Int) (l : List (List Int)) : partly f 0 l = l := by
  refine List.ext_getElem (by simp [partly]) fun i h1 h2 => ?_
  simp [partly]
theorem partly_len (f : Nat → List Int → List Int) (o : Nat) (l : List (List Int)) : (partly f o l).length = l.length := by simp [partly]
theorem partly_all (f : Nat → List Int → List Int) (l : List (List Int)) : partly f l.length l = l.mapIdx f := by
  refine List.ext_getElem (by simp [partly]) fun i h1 h2 => ?_
  have : i < l.length := by simpa [partly] using h1
  simp [partly, this]
theorem partly_get {f : Nat → List Int → List Int} {o : Nat} {l : List (List Int)} (h : o < l.length) : (partly f o l).getD o [] = l.getD o [] := by
  rw [getD_get (by rw [partly_len]; exact h), getD_get h]
  simp [partly]
theorem partly_step {f : Nat → List Int → List Int} {o : Nat} {l : List (List Int)} (h : o < l.length) : partly f (o + 1) l = (partly f o l).set o (f o (l.getD o [])) := by
  refine List.ext_getElem (by simp [partly]) fun i h1 h2 => ?_
  have hi : i < l.length := by simpa [partly] using h1
  rw [List.getElem_set]
  by_cases e : o = i
  · subst e
    rw [if_pos rfl, getD_get h]
    simp [partly]
  · rw [if_neg e]
    simp only [partly, List.getElem_mapIdx]
    by_cases q : i < o
    · rw [if_pos q, if_pos (by omega)]
    · rw [if_neg q, if_neg (by omega)]
theorem partly_keep {f : Nat → List Int → List Int} {o : Nat} {l : List (List Int)} (h : o < l.length) (hf : f o (l.getD o []) = l.getD o []) : partly f (o + 1) l = partly f o l := by
  rw [partly_step h, hf]
  refine List.ext_getElem (by simp) fun i h1 h2 => ?_
  rw [List.getElem_set]
  by_cases e : o = i
  · subst e
    rw [if_pos rfl, getD_get h]
    simp [partly]
  · rw [if_neg e]
/-- the rows as they're handed in -/
structure RowsIn (n : Nat) (rows : List (List Int)) : Prop where
  n12 : n ≤ 12
  len : ∀ r ∈ rows, r.length = n + 1
  few : rows.length ≤ 100
  sm : ∀ r ∈ rows, ∀ x ∈ r, x.natAbs ≤ 1000000000
theorem redTo_len (rows : List (List Int)) : ∀ c, (redTo rows c).1.length = rows.length
  | 0 => rfl
  | c + 1 => by
    rw [redTo_succ]
    unfold redStep
    split
    · exact redTo_len rows c
    · rw [List.length_mapIdx, swapped_len]
      exact redTo_len rows c
section
variable {P : Program} {w : World} {K : PySem.W.Frag} {mg : Str → Option Value} {base : Heap} (T : Txt K mg)
def spReduced : Sp := fun vs H Q _ => ∃ (p : Addr) (ps : List Addr) (rows : List (List Int)) (n : Nat), vs = [.ref p, .int n] ∧ H p = some (.lst (refV ps)) ∧ RowsAt H ps rows ∧ RowsIn n rows ∧
  ∀ l qs H2, Ex H H2 → H2 l = some (.lst (refV qs)) → RowsAt H2 qs (reduced rows n) → Q (.ref l) H2
theorem ok_reduced : FnOk P w K mg base CX0 4 T.reduced.f T.reduced.fd ["rows", "columns"] spReduced := by
  refine T.reduced.F.ok sc_reduced (fun vs H Q E h => ?_) (fun cdv A outer s H vs Q E hr h => ?_)
  · obtain ⟨p, ps, rows, n, rfl, _⟩ := h
    rfl
  · obtain ⟨p, ps, rows, n, rfl, hp, hR, hI, k⟩ := h
    refine ⟨_, (pss_cons (ps_set (i := 2) sc_reduced.nd rfl (Or.inl rfl) (pe_callTy call_list_of (by rfl) T.b_list (by decide +kernel) (pa_cons (pv 0) pa_nil)))
    (pss_cons (ps_set (i := 3) sc_reduced.nd rfl (Or.inl rfl) pe_int)
    (pss_cons (ps_for PassesOwn.never rfl (pi_range1 (by rfl) T.b_range (pa_cons (pv 1) pa_nil)) (pg_name (i := 4) sc_reduced.nd rfl (Or.inl rfl))
    (pss_cons (ps_set (i := 5) sc_reduced.nd rfl (Or.inl rfl) (pe_call (ok_row_with T) (hr.mono (by decide)) (by rfl) T.row_with.g T.row_with.F.kp T.row_with.b .nil pass0 (pa_cons (pv 2) (pa_cons (pv 3) (pa_cons (pv 4) pa_nil)))))
    (pss_one (ps_if (pt_cmpR op_ge (pv 5) pe_int (nomark _))
    (pss_cons (ps_set (i := 6) sc_reduced.nd rfl (Or.inl rfl) (pe_ix ix_list (pv 2) (pv 5) (fun _ _ => rfl)))
    (pss_cons (ps_asg (pe_ix ix_list (pv 2) (pv 3) (fun _ _ => rfl)) (pg_sub (pv 2) (pv 5) set_list))
    (pss_cons (ps_asg (pv 6) (pg_sub (pv 2) (pv 3) set_list))
    (pss_cons (ps_for PassesOwn.never rfl (pi_range1 (by rfl) T.b_range (pa_cons (pe_callB call_len_seq (by rfl) T.b_len (by decide +kernel) (pa_cons (pv 2) pa_nil)) pa_nil)) (pg_name (i := 7) sc_reduced.nd rfl (Or.inl rfl))
    (pss_one (ps_if (PW.pt (pw_and (pt_cmpR op_ne (pv 7) (pv 3) (nomark _)) (pw_and1 (pt_cmpR op_ne (pe_ix ix_list (pe_ix ix_list (pv 2) (pv 7) (fun _ _ => rfl)) (pv 4) (fun _ _ => rfl)) pe_int (nomark _)))))
    (pss_one (ps_asg (pe_call (ok_without T) (hr.mono (by decide)) (by rfl) T.without.g T.without.F.kp T.without.b .nil pass0 (pa_cons (pe_ix ix_list (pv 2) (pv 7) (fun _ _ => rfl)) (pa_cons (pv 6) (pa_cons (pv 4) pa_nil)))) (pg_sub (pv 2) (pv 7) set_list))) pss_nil)))
    (pss_one (ps_set (i := 3) sc_reduced.nd rfl (Or.inl rfl) (pe_op op_add (pv 3) pe_int))))))) pss_nil))))
    (pss_one (ps_ret (pv 2)))))), ?_⟩
    have n12 := hI.n12
    have few := hI.few
    refine q_asgL (el_list (ev_var rfl) (SqL.of hp)) fun l H1 nl e1 h1 => ?_
    refine q_asg ev_c fun H2 e2 => ?_
    have e02 : Ex H H2 := e1.trans e2
    refine q_forR1 (n := (n : Int)) (ea_cons (ev_var rfl) ea_nil) ⟨by omega, by omega⟩
      (fun c σ' H' => ∃ (qs : List Addr) (o5 o6 o7 o8 : Option V), σ' = [some (.ref p), some (.int n), some (.ref l), some (.int ((redTo rows c).2 : Nat)), o5, o6, o7, o8] ∧ Ex H H' ∧ H' l = some (.lst (refV qs)) ∧ RowsAt H' qs (redTo rows c).1)
      (fun H3 e3 => ⟨ps, none, none, none, none, rfl, e02.trans e3, (e2.trans e3) _ _ h1, hR.ex (e02.trans e3)⟩) (fun c σ' H' hc hP => ?_) (fun σ' H' hP => ?_)
    · obtain ⟨qs, o5, o6, o7, o8, rfl, e, hl, hQ⟩ := hP
      have hc' : c < n := by omega
      obtain ⟨cs, _, hlen, hd, _⟩ := red_all hI.len c (by omega)
      have small := red_small hI.n12 hI.len hI.sm (c := c) (by omega)
      have hlr := redTo_len rows c
      have hst : redTo rows (c + 1) = redStep (redTo rows c) c := redTo_succ rows c
      generalize redTo rows c = st at *
      obtain ⟨left, d⟩ := st
      dsimp only at hlen hd small hlr hQ ⊢
      have len1 : ∀ r ∈ left, 1 ≤ r.length := fun r hr => by rw [hlen r hr]; omega
      refine q_asg (ev_call (ea_cons (ev_var rfl) (ea_cons (ev_var rfl) (ea_cons (ev_var rfl) ea_nil))) (sv_of fun H4 e4 => ⟨l, qs, left, d, c, rfl, e4 _ _ hl, hQ.ex e4, hd, by omega, fun r hr => by rw [hlen r hr]; omega, rfl⟩)) fun H4 e4 => ?_
      have hl4 := e4 _ _ hl
      have hQ4 := hQ.ex e4
      have e04 := e.trans e4
      have key : redStep (left, d) c = match rowWith left d c with | none => (left, d) | some p => ((swapped left d p).mapIdx (clearRow (left.getD p []) d c), d + 1) := rfl
      rw [key] at hst
      cases hw : rowWith left d c with
      | none =>
        rw [hw] at hst
        refine s_when (et_test (ev_i (ev_var rfl) ev_c)) (fun hb H5 e5 => ?_) (fun hb H5 e5 => ?_)
        · have hb := of_decide_eq_true hb
          have : placeZ none = -1 := rfl
          omega
        · rw [hst]
          exact ⟨qs, some (.int c), some (.int (placeZ none)), o7, o8, rfl, e04.trans e5, e5 _ _ hl4, hQ4.ex e5⟩
      | some q =>
        rw [hw] at hst
        obtain ⟨hq, hdq, h0⟩ := rowWith_some hw
        have hdl : d < left.length := by omega
        obtain ⟨aq, haq, hraq⟩ := hQ4.get hq
        obtain ⟨ad, had, hrad⟩ := hQ4.get hdl
        have qlen : qs.length = left.length := hQ4.len
        refine s_when (et_test (ev_i (ev_var rfl) ev_c)) (fun hb H5 e5 => ?_) (fun hb H5 e5 => ?_)
        · have hl5 := e5 _ _ hl4
          have hQ5 := hQ4.ex e5
          have e05 := e04.trans e5
          -- pivot = left[place]; left[place] = left[done]; left[done] = pivot
          refine q_asg (ev_ixL (j := q) (ev_var rfl) (ev_var rfl) (SqL.of hl5) rfl (refV_get haq)) fun H6 e6 => ?_
          refine q_setL (j := q) (e6 _ _ hl5) (ev_ixL (j := d) (ev_var rfl) (ev_var rfl) (SqL.of (e6 _ _ hl5)) rfl (refV_get had)) (ev_var rfl) (ev_var rfl) (by rw [refV_len]; omega) fun H7 e7 => ?_
          refine q_setL (j := d) upd_same (ev_var rfl) (ev_var rfl) (ev_var rfl) (by rw [List.length_set, refV_len]; omega) fun H8 e8 => ?_
          rw [refV_set, refV_set]
          have b5 : ExB l H5 (upd H8 l (.lst (refV ((qs.set q ad).set d aq)))) := (((ExB.of (e6.trans e7)).trans (ExB.upd l H7 _)).trans (ExB.of e8)).trans (ExB.upd l H8 _)
          have hl9 : (upd H8 l (.lst (refV ((qs.set q ad).set d aq)))) l = some (.lst (refV ((qs.set q ad).set d aq))) := upd_same
          generalize upd H8 l (.lst (refV ((qs.set q ad).set d aq))) = H9 at b5 hl9
          have ne1 : ∀ i, i < left.length → 1 ≤ (left.getD i []).length := fun i hi => by
            rw [getD_get hi]
            exact len1 _ (List.getElem_mem hi)
          have hraq9 : H9 aq = some (.lst (zV (left.getD q []))) := b5 _ _ (row_ne hraq hl4 (ne1 q hq)) (e5 _ _ hraq)
          have hrad9 : H9 ad = some (.lst (zV (left.getD d []))) := b5 _ _ (row_ne hrad hl4 (ne1 d hdl)) (e5 _ _ hrad)
          have hQ9 : RowsAt H9 ((qs.set q ad).set d aq) (swapped left d q) := ((hQ5.exB ⟨qs, hl5⟩ len1 b5).set hrad9).set hraq9
          have e09 : Ex H H9 := ExB.ex e05 nl b5
          have slen : (swapped left d q).length = left.length := swapped_len left d q
          have smem : ∀ r ∈ swapped left d q, r ∈ left := fun r hr => by
            obtain ⟨i, hi, rfl⟩ := List.mem_iff_getElem.mp hr
            rw [slen] at hi
            rw [swapped_get hdl hq hi]
            split
            · exact List.getElem_mem _
            · split <;> exact List.getElem_mem _
          have swl : ∀ i, i < left.length → ((swapped left d q).getD i []) ∈ left := fun i hi => by
            rw [getD_get (by omega)]
            exact smem _ (List.getElem_mem _)
          have pin : left.getD q [] ∈ left := by
            rw [getD_get hq]
            exact List.getElem_mem _
          -- the other rows
          refine q_forR1 (n := (left.length : Int)) (ea_cons (ev_is (ev_len (ev_var rfl) (SqL.of hl9)) (by rw [refV_len, List.length_set, List.length_set, qlen])) ea_nil) ⟨by omega, by omega⟩
            (fun o σ' H' => ∃ (rs : List Addr) (o8 : Option V), σ' = [some (.ref p), some (.int n), some (.ref l), some (.int d), some (.int c), some (.int q), some (.ref aq), o8] ∧ Ex H H' ∧ H' l = some (.lst (refV rs)) ∧ RowsAt H' rs (partly (clearRow (left.getD q []) d c) o (swapped left d q)) ∧ H' aq = some (.lst (zV (left.getD q []))))
            (fun H10 e10 => ⟨_, o8, rfl, e09.trans e10, e10 _ _ hl9, ?_, e10 _ _ hraq9⟩) (fun o σ' H' ho hP => ?_) (fun σ' H' hP => ?_)
          · rw [partly_zero]
            exact hQ9.ex e10
          · obtain ⟨rs, o8', rfl, eo, hlo, hQo, hpo⟩ := hP
            have ho' : o < left.length := by omega
            have hos : o < (swapped left d q).length := by omega
            obtain ⟨ao, hao, hrao⟩ := hQo.get (i := o) (by rw [partly_len]; exact hos)
            rw [partly_get hos] at hrao
            have rmem := swl o ho'
            have rlen := hlen _ rmem
            refine s_when (b := (!((o : Int) == (d : Int))) && !(((swapped left d q).getD o []).getD c 0 == 0)) (et_and (et_test (ev_neI (ev_var rfl) (ev_var rfl))) fun _ => et_test (ev_neI (ev_ixL (ev_ixL (ev_var rfl) (ev_var rfl) (SqL.of hlo) rfl (refV_get hao)) (ev_var rfl) (SqL.of hrao) rfl (zV_get (by rw [rlen]; omega))) ev_c)) (fun hb H10 e10 => ?_) (fun hb H10 e10 => ?_)
            · have hb2 : o ≠ d ∧ ((swapped left d q).getD o []).getD c 0 ≠ 0 := by
                rw [Bool.and_eq_true] at hb
                obtain ⟨b1, b2⟩ := hb
                refine ⟨fun z => ?_, fun z => ?_⟩
                · subst z
                  simp at b1
                · rw [z] at b2
                  simp at b2
              have plen := hlen _ pin
              refine s_setS (j := o) (e10 _ _ hlo) (es_call (ea_cons (ev_ixL (ev_var rfl) (ev_var rfl) (SqL.of (e10 _ _ hlo)) rfl (refV_get hao)) (ea_cons (ev_var rfl) (ea_cons (ev_var rfl) ea_nil))) fun H11 e11 => ⟨ao, aq, (swapped left d q).getD o [], left.getD q [], c, rfl, (e10.trans e11) _ _ hrao, (e10.trans e11) _ _ hpo, by rw [rlen, plen], by omega, by omega, fun x hx => small _ rmem x hx, fun x hx => small _ pin x hx, rfl⟩)
                (fun _ _ => ev_var rfl) (fun _ _ => ev_var rfl) (by rw [refV_len, hQo.len, partly_len]; exact hos) fun nw H11 e11 hnw => ?_
              rw [refV_set]
              have ec : clearRow (left.getD q []) d c o ((swapped left d q).getD o []) = without ((swapped left d q).getD o []) (left.getD q []) c := if_pos hb2
              have b11 : ExB l H11 (upd H11 l (.lst (refV (rs.set o nw)))) := ExB.upd l H11 _
              have ll : (upd H11 l (.lst (refV (rs.set o nw)))) l = some (.lst (refV (rs.set o nw))) := upd_same
              generalize upd H11 l (.lst (refV (rs.set o nw))) = H12 at b11 ll
              have wl : (without ((swapped left d q).getD o []) (left.getD q []) c).length = n + 1 := by rw [without_len, rlen]
              have hl11 : H11 l = some (.lst (refV rs)) := (e10.trans e11) _ _ hlo
              have hnw12 : H12 nw = some (.lst (zV (without ((swapped left d q).getD o []) (left.getD q []) c))) := b11 _ _ (row_ne hnw hl11 (by omega)) hnw
              have pl1 : ∀ r ∈ partly (clearRow (left.getD q []) d c) o (swapped left d q), 1 ≤ r.length := fun r hr => by
                obtain ⟨i, hi, rfl⟩ := List.mem_iff_getElem.mp hr
                rw [partly_len] at hi
                simp only [partly, List.getElem_mapIdx]
                have h3 := hlen _ (smem _ (List.getElem_mem hi))
                split
                · rw [clear_len (n := n) h3]
                  omega
                · omega
              refine ⟨rs.set o nw, some (.int o), rfl, ExB.ex ((eo.trans e10).trans e11) nl b11, ll, ?_, b11 _ _ (row_ne hpo hlo (by omega)) ((e10.trans e11) _ _ hpo)⟩
              rw [partly_step hos, ec]
              exact (((hQo.ex e10).ex e11).exB ⟨rs, hl11⟩ pl1 b11).set hnw12
            · refine ⟨rs, some (.int o), rfl, eo.trans e10, e10 _ _ hlo, ?_, e10 _ _ hpo⟩
              have ec : clearRow (left.getD q []) d c o ((swapped left d q).getD o []) = (swapped left d q).getD o [] := by
                refine if_neg fun z => ?_
                have z1 : ((o : Int) == (d : Int)) = false := by
                  have : ¬ (o : Int) = d := fun y => z.1 (by omega)
                  simpa using this
                have z2 : (((swapped left d q).getD o []).getD c 0 == 0) = false := by simpa using z.2
                rw [z1, z2] at hb
                cases hb
              rw [partly_keep hos ec]
              exact hQo.ex e10
          · obtain ⟨rs, o8', rfl, eo, hlo, hQo, hpo⟩ := hP
            have et : ((left.length : Int)).toNat = (swapped left d q).length := by omega
            rw [et, partly_all] at hQo
            refine s_asg (ev_i (ev_var rfl) ev_c) fun H10 e10 => ?_
            rw [hst]
            exact ⟨rs, some (.int c), some (.int q), some (.ref aq), o8', rfl, eo.trans e10, e10 _ _ hlo, hQo.ex e10⟩
        · have hb := of_decide_eq_false hb
          have : placeZ (some q) = q := rfl
          omega
    · obtain ⟨qs, o5, o6, o7, o8, rfl, e, hl, hQ⟩ := hP
      have et : ((n : Int)).toNat = n := by omega
      rw [et] at hQ
      exact s_ret (ev_var rfl) fun H3 e3 => k l qs H3 (e.trans e3) (e3 _ _ hl) (hQ.ex e3)
end
end Cw

/-! How the works lie in the heap: the attributes of each kind of object. -/
namespace Cw
open PySem PySem.Spec PyProof.Rows L2 Evl
def moverF (na : Addr) (pl : Int) (src : V) (st : Int) (ab : Int) (be : Int) : List (Str × V) := [("name", .ref na), ("place", .int pl), ("source", src), ("steps", .int st), ("above", .int ab), ("below", .int be)]
def moverK : List Str := ["name", "place", "source", "steps", "above", "below"]
theorem moverF_keys {na : Addr} {pl : Int} {src : V} {st : Int} {ab : Int} {be : Int} : (moverF na pl src st ab be).map (·.1) = moverK := rfl
theorem moverF_len {na : Addr} {pl : Int} {src : V} {st : Int} {ab : Int} {be : Int} : (moverF na pl src st ab be).length < 1000 := by show 6 < 1000; decide
theorem moverF_name {na : Addr} {pl : Int} {src : V} {st : Int} {ab : Int} {be : Int} : (moverF na pl src st ab be).lookup ("name" : Str) = some (.ref na) := lk_here
theorem Txt.fd_mover_name {K : PySem.W.Frag} {mg : Str → Option Value} (T : Txt K mg) {H : Hp} {p dx : Addr} {na : Addr} {pl : Int} {src : V} {st : Int} {ab : Int} {be : Int} (h : H p = some (.ins T.Mover.C dx (moverF na pl src st ab be))) : Fd K H p "name" (.ref na) := ⟨_, _, _, h, T.Mover.cl, T.n_Mover_name, moverF_name⟩
theorem moverF_place {na : Addr} {pl : Int} {src : V} {st : Int} {ab : Int} {be : Int} : (moverF na pl src st ab be).lookup ("place" : Str) = some (.int pl) := (lk_past (by decide +kernel)).trans (lk_here)
theorem Txt.fd_mover_place {K : PySem.W.Frag} {mg : Str → Option Value} (T : Txt K mg) {H : Hp} {p dx : Addr} {na : Addr} {pl : Int} {src : V} {st : Int} {ab : Int} {be : Int} (h : H p = some (.ins T.Mover.C dx (moverF na pl src st ab be))) : Fd K H p "place" (.int pl) := ⟨_, _, _, h, T.Mover.cl, T.n_Mover_place, moverF_place⟩
theorem moverF_source {na : Addr} {pl : Int} {src : V} {st : Int} {ab : Int} {be : Int} : (moverF na pl src st ab be).lookup ("source" : Str) = some (src) := (lk_past (by decide +kernel)).trans ((lk_past (by decide +kernel)).trans (lk_here))
theorem Txt.fd_mover_source {K : PySem.W.Frag} {mg : Str → Option Value} (T : Txt K mg) {H : Hp} {p dx : Addr} {na : Addr} {pl : Int} {src : V} {st : Int} {ab : Int} {be : Int} (h : H p = some (.ins T.Mover.C dx (moverF na pl src st ab be))) : Fd K H p "source" (src) := ⟨_, _, _, h, T.Mover.cl, T.n_Mover_source, moverF_source⟩
theorem moverF_steps {na : Addr} {pl : Int} {src : V} {st : Int} {ab : Int} {be : Int} : (moverF na pl src st ab be).lookup ("steps" : Str) = some (.int st) := (lk_past (by decide +kernel)).trans ((lk_past (by decide +kernel)).trans ((lk_past (by decide +kernel)).trans (lk_here)))
theorem Txt.fd_mover_steps {K : PySem.W.Frag} {mg : Str → Option Value} (T : Txt K mg) {H : Hp} {p dx : Addr} {na : Addr} {pl : Int} {src : V} {st : Int} {ab : Int} {be : Int} (h : H p = some (.ins T.Mover.C dx (moverF na pl src st ab be))) : Fd K H p "steps" (.int st) := ⟨_, _, _, h, T.Mover.cl, T.n_Mover_steps, moverF_steps⟩
theorem moverF_above {na : Addr} {pl : Int} {src : V} {st : Int} {ab : Int} {be : Int} : (moverF na pl src st ab be).lookup ("above" : Str) = some (.int ab) := (lk_past (by decide +kernel)).trans ((lk_past (by decide +kernel)).trans ((lk_past (by decide +kernel)).trans ((lk_past (by decide +kernel)).trans (lk_here))))
theorem Txt.fd_mover_above {K : PySem.W.Frag} {mg : Str → Option Value} (T : Txt K mg) {H : Hp} {p dx : Addr} {na : Addr} {pl : Int} {src : V} {st : Int} {ab : Int} {be : Int} (h : H p = some (.ins T.Mover.C dx (moverF na pl src st ab be))) : Fd K H p "above" (.int ab) := ⟨_, _, _, h, T.Mover.cl, T.n_Mover_above, moverF_above⟩
theorem moverF_put_above {na : Addr} {pl : Int} {src : V} {st : Int} {ab : Int} {be : Int} {zz : Int} : putF "above" (.int zz) (moverF na pl src st ab be) = moverF na pl src st zz be := (put_past (by decide +kernel)).trans (congrArg (List.cons _) ((put_past (by decide +kernel)).trans (congrArg (List.cons _) ((put_past (by decide +kernel)).trans (congrArg (List.cons _) ((put_past (by decide +kernel)).trans (congrArg (List.cons _) (put_here))))))))
theorem moverF_below {na : Addr} {pl : Int} {src : V} {st : Int} {ab : Int} {be : Int} : (moverF na pl src st ab be).lookup ("below" : Str) = some (.int be) := (lk_past (by decide +kernel)).trans ((lk_past (by decide +kernel)).trans ((lk_past (by decide +kernel)).trans ((lk_past (by decide +kernel)).trans ((lk_past (by decide +kernel)).trans (lk_here)))))
theorem Txt.fd_mover_below {K : PySem.W.Frag} {mg : Str → Option Value} (T : Txt K mg) {H : Hp} {p dx : Addr} {na : Addr} {pl : Int} {src : V} {st : Int} {ab : Int} {be : Int} (h : H p = some (.ins T.Mover.C dx (moverF na pl src st ab be))) : Fd K H p "below" (.int be) := ⟨_, _, _, h, T.Mover.cl, T.n_Mover_below, moverF_below⟩
theorem moverF_put_below {na : Addr} {pl : Int} {src : V} {st : Int} {ab : Int} {be : Int} {zz : Int} : putF "below" (.int zz) (moverF na pl src st ab be) = moverF na pl src st ab zz := (put_past (by decide +kernel)).trans (congrArg (List.cons _) ((put_past (by decide +kernel)).trans (congrArg (List.cons _) ((put_past (by decide +kernel)).trans (congrArg (List.cons _) ((put_past (by decide +kernel)).trans (congrArg (List.cons _) ((put_past (by decide +kernel)).trans (congrArg (List.cons _) (put_here))))))))))
theorem moverF_new {na : Addr} {pl : Int} {src : V} {st : Int} {ab : Int} {be : Int} : putF "below" (.int be) (putF "above" (.int ab) (putF "steps" (.int st) (putF "source" (src) (putF "place" (.int pl) (putF "name" (.ref na) ([])))))) = moverF na pl src st ab be := by rfl
def wheelF (na : Addr) (ar : Addr) (te : Int) : List (Str × V) := [("name", .ref na), ("arbor", .ref ar), ("teeth", .int te)]
def wheelK : List Str := ["name", "arbor", "teeth"]
theorem wheelF_keys {na : Addr} {ar : Addr} {te : Int} : (wheelF na ar te).map (·.1) = wheelK := rfl
theorem wheelF_len {na : Addr} {ar : Addr} {te : Int} : (wheelF na ar te).length < 1000 := by show 3 < 1000; decide
theorem wheelF_name {na : Addr} {ar : Addr} {te : Int} : (wheelF na ar te).lookup ("name" : Str) = some (.ref na) := lk_here
theorem Txt.fd_wheel_name {K : PySem.W.Frag} {mg : Str → Option Value} (T : Txt K mg) {H : Hp} {p dx : Addr} {na : Addr} {ar : Addr} {te : Int} (h : H p = some (.ins T.Wheel.C dx (wheelF na ar te))) : Fd K H p "name" (.ref na) := ⟨_, _, _, h, T.Wheel.cl, T.n_Wheel_name, wheelF_name⟩
theorem wheelF_arbor {na : Addr} {ar : Addr} {te : Int} : (wheelF na ar te).lookup ("arbor" : Str) = some (.ref ar) := (lk_past (by decide +kernel)).trans (lk_here)
theorem Txt.fd_wheel_arbor {K : PySem.W.Frag} {mg : Str → Option Value} (T : Txt K mg) {H : Hp} {p dx : Addr} {na : Addr} {ar : Addr} {te : Int} (h : H p = some (.ins T.Wheel.C dx (wheelF na ar te))) : Fd K H p "arbor" (.ref ar) := ⟨_, _, _, h, T.Wheel.cl, T.n_Wheel_arbor, wheelF_arbor⟩
theorem wheelF_teeth {na : Addr} {ar : Addr} {te : Int} : (wheelF na ar te).lookup ("teeth" : Str) = some (.int te) := (lk_past (by decide +kernel)).trans ((lk_past (by decide +kernel)).trans (lk_here))
theorem Txt.fd_wheel_teeth {K : PySem.W.Frag} {mg : Str → Option Value} (T : Txt K mg) {H : Hp} {p dx : Addr} {na : Addr} {ar : Addr} {te : Int} (h : H p = some (.ins T.Wheel.C dx (wheelF na ar te))) : Fd K H p "teeth" (.int te) := ⟨_, _, _, h, T.Wheel.cl, T.n_Wheel_teeth, wheelF_teeth⟩
theorem wheelF_new {na : Addr} {ar : Addr} {te : Int} : putF "teeth" (.int te) (putF "arbor" (.ref ar) (putF "name" (.ref na) ([]))) = wheelF na ar te := by rfl
def meshF (fi : Addr) (se : Addr) (ins : Bool) (car : V) : List (Str × V) := [("first", .ref fi), ("second", .ref se), ("inside", .bl ins), ("carrier", car)]
def meshK : List Str := ["first", "second", "inside", "carrier"]
theorem meshF_keys {fi : Addr} {se : Addr} {ins : Bool} {car : V} : (meshF fi se ins car).map (·.1) = meshK := rfl
theorem meshF_len {fi : Addr} {se : Addr} {ins : Bool} {car : V} : (meshF fi se ins car).length < 1000 := by show 4 < 1000; decide
theorem meshF_first {fi : Addr} {se : Addr} {ins : Bool} {car : V} : (meshF fi se ins car).lookup ("first" : Str) = some (.ref fi) := lk_here
theorem Txt.fd_mesh_first {K : PySem.W.Frag} {mg : Str → Option Value} (T : Txt K mg) {H : Hp} {p dx : Addr} {fi : Addr} {se : Addr} {ins : Bool} {car : V} (h : H p = some (.ins T.Mesh.C dx (meshF fi se ins car))) : Fd K H p "first" (.ref fi) := ⟨_, _, _, h, T.Mesh.cl, T.n_Mesh_first, meshF_first⟩
theorem meshF_second {fi : Addr} {se : Addr} {ins : Bool} {car : V} : (meshF fi se ins car).lookup ("second" : Str) = some (.ref se) := (lk_past (by decide +kernel)).trans (lk_here)
theorem Txt.fd_mesh_second {K : PySem.W.Frag} {mg : Str → Option Value} (T : Txt K mg) {H : Hp} {p dx : Addr} {fi : Addr} {se : Addr} {ins : Bool} {car : V} (h : H p = some (.ins T.Mesh.C dx (meshF fi se ins car))) : Fd K H p "second" (.ref se) := ⟨_, _, _, h, T.Mesh.cl, T.n_Mesh_second, meshF_second⟩
theorem meshF_inside {fi : Addr} {se : Addr} {ins : Bool} {car : V} : (meshF fi se ins car).lookup ("inside" : Str) = some (.bl ins) := (lk_past (by decide +kernel)).trans ((lk_past (by decide +kernel)).trans (lk_here))
theorem Txt.fd_mesh_inside {K : PySem.W.Frag} {mg : Str → Option Value} (T : Txt K mg) {H : Hp} {p dx : Addr} {fi : Addr} {se : Addr} {ins : Bool} {car : V} (h : H p = some (.ins T.Mesh.C dx (meshF fi se ins car))) : Fd K H p "inside" (.bl ins) := ⟨_, _, _, h, T.Mesh.cl, T.n_Mesh_inside, meshF_inside⟩
theorem meshF_carrier {fi : Addr} {se : Addr} {ins : Bool} {car : V} : (meshF fi se ins car).lookup ("carrier" : Str) = some (car) := (lk_past (by decide +kernel)).trans ((lk_past (by decide +kernel)).trans ((lk_past (by decide +kernel)).trans (lk_here)))
theorem Txt.fd_mesh_carrier {K : PySem.W.Frag} {mg : Str → Option Value} (T : Txt K mg) {H : Hp} {p dx : Addr} {fi : Addr} {se : Addr} {ins : Bool} {car : V} (h : H p = some (.ins T.Mesh.C dx (meshF fi se ins car))) : Fd K H p "carrier" (car) := ⟨_, _, _, h, T.Mesh.cl, T.n_Mesh_carrier, meshF_carrier⟩
theorem meshF_new {fi : Addr} {se : Addr} {ins : Bool} {car : V} : putF "carrier" (car) (putF "inside" (.bl ins) (putF "second" (.ref se) (putF "first" (.ref fi) ([])))) = meshF fi se ins car := by rfl
def handF (na : Addr) (mv : Addr) (ma : Int) (off : Int) : List (Str × V) := [("name", .ref na), ("mover", .ref mv), ("marks", .int ma), ("offset", .int off)]
def handK : List Str := ["name", "mover", "marks", "offset"]
theorem handF_keys {na : Addr} {mv : Addr} {ma : Int} {off : Int} : (handF na mv ma off).map (·.1) = handK := rfl
theorem handF_len {na : Addr} {mv : Addr} {ma : Int} {off : Int} : (handF na mv ma off).length < 1000 := by show 4 < 1000; decide
theorem handF_name {na : Addr} {mv : Addr} {ma : Int} {off : Int} : (handF na mv ma off).lookup ("name" : Str) = some (.ref na) := lk_here
theorem Txt.fd_hand_name {K : PySem.W.Frag} {mg : Str → Option Value} (T : Txt K mg) {H : Hp} {p dx : Addr} {na : Addr} {mv : Addr} {ma : Int} {off : Int} (h : H p = some (.ins T.Hand.C dx (handF na mv ma off))) : Fd K H p "name" (.ref na) := ⟨_, _, _, h, T.Hand.cl, T.n_Hand_name, handF_name⟩
theorem handF_mover {na : Addr} {mv : Addr} {ma : Int} {off : Int} : (handF na mv ma off).lookup ("mover" : Str) = some (.ref mv) := (lk_past (by decide +kernel)).trans (lk_here)
theorem Txt.fd_hand_mover {K : PySem.W.Frag} {mg : Str → Option Value} (T : Txt K mg) {H : Hp} {p dx : Addr} {na : Addr} {mv : Addr} {ma : Int} {off : Int} (h : H p = some (.ins T.Hand.C dx (handF na mv ma off))) : Fd K H p "mover" (.ref mv) := ⟨_, _, _, h, T.Hand.cl, T.n_Hand_mover, handF_mover⟩
theorem handF_marks {na : Addr} {mv : Addr} {ma : Int} {off : Int} : (handF na mv ma off).lookup ("marks" : Str) = some (.int ma) := (lk_past (by decide +kernel)).trans ((lk_past (by decide +kernel)).trans (lk_here))
theorem Txt.fd_hand_marks {K : PySem.W.Frag} {mg : Str → Option Value} (T : Txt K mg) {H : Hp} {p dx : Addr} {na : Addr} {mv : Addr} {ma : Int} {off : Int} (h : H p = some (.ins T.Hand.C dx (handF na mv ma off))) : Fd K H p "marks" (.int ma) := ⟨_, _, _, h, T.Hand.cl, T.n_Hand_marks, handF_marks⟩
theorem handF_offset {na : Addr} {mv : Addr} {ma : Int} {off : Int} : (handF na mv ma off).lookup ("offset" : Str) = some (.int off) := (lk_past (by decide +kernel)).trans ((lk_past (by decide +kernel)).trans ((lk_past (by decide +kernel)).trans (lk_here)))
theorem Txt.fd_hand_offset {K : PySem.W.Frag} {mg : Str → Option Value} (T : Txt K mg) {H : Hp} {p dx : Addr} {na : Addr} {mv : Addr} {ma : Int} {off : Int} (h : H p = some (.ins T.Hand.C dx (handF na mv ma off))) : Fd K H p "offset" (.int off) := ⟨_, _, _, h, T.Hand.cl, T.n_Hand_offset, handF_offset⟩
theorem handF_put_offset {na : Addr} {mv : Addr} {ma : Int} {off : Int} {zz : Int} : putF "offset" (.int zz) (handF na mv ma off) = handF na mv ma zz := (put_past (by decide +kernel)).trans (congrArg (List.cons _) ((put_past (by decide +kernel)).trans (congrArg (List.cons _) ((put_past (by decide +kernel)).trans (congrArg (List.cons _) (put_here))))))
theorem handF_new {na : Addr} {mv : Addr} {ma : Int} {off : Int} : putF "offset" (.int off) (putF "marks" (.int ma) (putF "mover" (.ref mv) (putF "name" (.ref na) ([])))) = handF na mv ma off := by rfl
def strikerF (na : Addr) (mv : Addr) (ns : Addr) (hd : V) (pl : Int) : List (Str × V) := [("name", .ref na), ("mover", .ref mv), ("numbers", .ref ns), ("hand", hd), ("place", .int pl)]
def strikerK : List Str := ["name", "mover", "numbers", "hand", "place"]
theorem strikerF_keys {na : Addr} {mv : Addr} {ns : Addr} {hd : V} {pl : Int} : (strikerF na mv ns hd pl).map (·.1) = strikerK := rfl
theorem strikerF_len {na : Addr} {mv : Addr} {ns : Addr} {hd : V} {pl : Int} : (strikerF na mv ns hd pl).length < 1000 := by show 5 < 1000; decide
theorem strikerF_name {na : Addr} {mv : Addr} {ns : Addr} {hd : V} {pl : Int} : (strikerF na mv ns hd pl).lookup ("name" : Str) = some (.ref na) := lk_here
theorem Txt.fd_striker_name {K : PySem.W.Frag} {mg : Str → Option Value} (T : Txt K mg) {H : Hp} {p dx : Addr} {na : Addr} {mv : Addr} {ns : Addr} {hd : V} {pl : Int} (h : H p = some (.ins T.Striker.C dx (strikerF na mv ns hd pl))) : Fd K H p "name" (.ref na) := ⟨_, _, _, h, T.Striker.cl, T.n_Striker_name, strikerF_name⟩
theorem strikerF_mover {na : Addr} {mv : Addr} {ns : Addr} {hd : V} {pl : Int} : (strikerF na mv ns hd pl).lookup ("mover" : Str) = some (.ref mv) := (lk_past (by decide +kernel)).trans (lk_here)
theorem Txt.fd_striker_mover {K : PySem.W.Frag} {mg : Str → Option Value} (T : Txt K mg) {H : Hp} {p dx : Addr} {na : Addr} {mv : Addr} {ns : Addr} {hd : V} {pl : Int} (h : H p = some (.ins T.Striker.C dx (strikerF na mv ns hd pl))) : Fd K H p "mover" (.ref mv) := ⟨_, _, _, h, T.Striker.cl, T.n_Striker_mover, strikerF_mover⟩
theorem strikerF_numbers {na : Addr} {mv : Addr} {ns : Addr} {hd : V} {pl : Int} : (strikerF na mv ns hd pl).lookup ("numbers" : Str) = some (.ref ns) := (lk_past (by decide +kernel)).trans ((lk_past (by decide +kernel)).trans (lk_here))
theorem Txt.fd_striker_numbers {K : PySem.W.Frag} {mg : Str → Option Value} (T : Txt K mg) {H : Hp} {p dx : Addr} {na : Addr} {mv : Addr} {ns : Addr} {hd : V} {pl : Int} (h : H p = some (.ins T.Striker.C dx (strikerF na mv ns hd pl))) : Fd K H p "numbers" (.ref ns) := ⟨_, _, _, h, T.Striker.cl, T.n_Striker_numbers, strikerF_numbers⟩
theorem strikerF_hand {na : Addr} {mv : Addr} {ns : Addr} {hd : V} {pl : Int} : (strikerF na mv ns hd pl).lookup ("hand" : Str) = some (hd) := (lk_past (by decide +kernel)).trans ((lk_past (by decide +kernel)).trans ((lk_past (by decide +kernel)).trans (lk_here)))
theorem Txt.fd_striker_hand {K : PySem.W.Frag} {mg : Str → Option Value} (T : Txt K mg) {H : Hp} {p dx : Addr} {na : Addr} {mv : Addr} {ns : Addr} {hd : V} {pl : Int} (h : H p = some (.ins T.Striker.C dx (strikerF na mv ns hd pl))) : Fd K H p "hand" (hd) := ⟨_, _, _, h, T.Striker.cl, T.n_Striker_hand, strikerF_hand⟩
theorem strikerF_place {na : Addr} {mv : Addr} {ns : Addr} {hd : V} {pl : Int} : (strikerF na mv ns hd pl).lookup ("place" : Str) = some (.int pl) := (lk_past (by decide +kernel)).trans ((lk_past (by decide +kernel)).trans ((lk_past (by decide +kernel)).trans ((lk_past (by decide +kernel)).trans (lk_here))))
theorem Txt.fd_striker_place {K : PySem.W.Frag} {mg : Str → Option Value} (T : Txt K mg) {H : Hp} {p dx : Addr} {na : Addr} {mv : Addr} {ns : Addr} {hd : V} {pl : Int} (h : H p = some (.ins T.Striker.C dx (strikerF na mv ns hd pl))) : Fd K H p "place" (.int pl) := ⟨_, _, _, h, T.Striker.cl, T.n_Striker_place, strikerF_place⟩
theorem strikerF_put_place {na : Addr} {mv : Addr} {ns : Addr} {hd : V} {pl : Int} {zz : Int} : putF "place" (.int zz) (strikerF na mv ns hd pl) = strikerF na mv ns hd zz := (put_past (by decide +kernel)).trans (congrArg (List.cons _) ((put_past (by decide +kernel)).trans (congrArg (List.cons _) ((put_past (by decide +kernel)).trans (congrArg (List.cons _) ((put_past (by decide +kernel)).trans (congrArg (List.cons _) (put_here))))))))
theorem strikerF_new {na : Addr} {mv : Addr} {ns : Addr} {hd : V} {pl : Int} : putF "place" (.int pl) (putF "hand" (hd) (putF "numbers" (.ref ns) (putF "mover" (.ref mv) (putF "name" (.ref na) ([]))))) = strikerF na mv ns hd pl := by rfl
def calF (na : Addr) (mv : Addr) (y : Int) (m : Int) (d : Int) (off : Int) : List (Str × V) := [("name", .ref na), ("mover", .ref mv), ("year", .int y), ("month", .int m), ("day", .int d), ("offset", .int off)]
def calK : List Str := ["name", "mover", "year", "month", "day", "offset"]
theorem calF_keys {na : Addr} {mv : Addr} {y : Int} {m : Int} {d : Int} {off : Int} : (calF na mv y m d off).map (·.1) = calK := rfl
theorem calF_len {na : Addr} {mv : Addr} {y : Int} {m : Int} {d : Int} {off : Int} : (calF na mv y m d off).length < 1000 := by show 6 < 1000; decide
theorem calF_name {na : Addr} {mv : Addr} {y : Int} {m : Int} {d : Int} {off : Int} : (calF na mv y m d off).lookup ("name" : Str) = some (.ref na) := lk_here
theorem Txt.fd_cal_name {K : PySem.W.Frag} {mg : Str → Option Value} (T : Txt K mg) {H : Hp} {p dx : Addr} {na : Addr} {mv : Addr} {y : Int} {m : Int} {d : Int} {off : Int} (h : H p = some (.ins T.Calendar.C dx (calF na mv y m d off))) : Fd K H p "name" (.ref na) := ⟨_, _, _, h, T.Calendar.cl, T.n_Calendar_name, calF_name⟩
theorem calF_mover {na : Addr} {mv : Addr} {y : Int} {m : Int} {d : Int} {off : Int} : (calF na mv y m d off).lookup ("mover" : Str) = some (.ref mv) := (lk_past (by decide +kernel)).trans (lk_here)
theorem Txt.fd_cal_mover {K : PySem.W.Frag} {mg : Str → Option Value} (T : Txt K mg) {H : Hp} {p dx : Addr} {na : Addr} {mv : Addr} {y : Int} {m : Int} {d : Int} {off : Int} (h : H p = some (.ins T.Calendar.C dx (calF na mv y m d off))) : Fd K H p "mover" (.ref mv) := ⟨_, _, _, h, T.Calendar.cl, T.n_Calendar_mover, calF_mover⟩
theorem calF_year {na : Addr} {mv : Addr} {y : Int} {m : Int} {d : Int} {off : Int} : (calF na mv y m d off).lookup ("year" : Str) = some (.int y) := (lk_past (by decide +kernel)).trans ((lk_past (by decide +kernel)).trans (lk_here))
theorem Txt.fd_cal_year {K : PySem.W.Frag} {mg : Str → Option Value} (T : Txt K mg) {H : Hp} {p dx : Addr} {na : Addr} {mv : Addr} {y : Int} {m : Int} {d : Int} {off : Int} (h : H p = some (.ins T.Calendar.C dx (calF na mv y m d off))) : Fd K H p "year" (.int y) := ⟨_, _, _, h, T.Calendar.cl, T.n_Calendar_year, calF_year⟩
theorem calF_month {na : Addr} {mv : Addr} {y : Int} {m : Int} {d : Int} {off : Int} : (calF na mv y m d off).lookup ("month" : Str) = some (.int m) := (lk_past (by decide +kernel)).trans ((lk_past (by decide +kernel)).trans ((lk_past (by decide +kernel)).trans (lk_here)))
theorem Txt.fd_cal_month {K : PySem.W.Frag} {mg : Str → Option Value} (T : Txt K mg) {H : Hp} {p dx : Addr} {na : Addr} {mv : Addr} {y : Int} {m : Int} {d : Int} {off : Int} (h : H p = some (.ins T.Calendar.C dx (calF na mv y m d off))) : Fd K H p "month" (.int m) := ⟨_, _, _, h, T.Calendar.cl, T.n_Calendar_month, calF_month⟩
theorem calF_day {na : Addr} {mv : Addr} {y : Int} {m : Int} {d : Int} {off : Int} : (calF na mv y m d off).lookup ("day" : Str) = some (.int d) := (lk_past (by decide +kernel)).trans ((lk_past (by decide +kernel)).trans ((lk_past (by decide +kernel)).trans ((lk_past (by decide +kernel)).trans (lk_here))))
theorem Txt.fd_cal_day {K : PySem.W.Frag} {mg : Str → Option Value} (T : Txt K mg) {H : Hp} {p dx : Addr} {na : Addr} {mv : Addr} {y : Int} {m : Int} {d : Int} {off : Int} (h : H p = some (.ins T.Calendar.C dx (calF na mv y m d off))) : Fd K H p "day" (.int d) := ⟨_, _, _, h, T.Calendar.cl, T.n_Calendar_day, calF_day⟩
theorem calF_offset {na : Addr} {mv : Addr} {y : Int} {m : Int} {d : Int} {off : Int} : (calF na mv y m d off).lookup ("offset" : Str) = some (.int off) := (lk_past (by decide +kernel)).trans ((lk_past (by decide +kernel)).trans ((lk_past (by decide +kernel)).trans ((lk_past (by decide +kernel)).trans ((lk_past (by decide +kernel)).trans (lk_here)))))
theorem Txt.fd_cal_offset {K : PySem.W.Frag} {mg : Str → Option Value} (T : Txt K mg) {H : Hp} {p dx : Addr} {na : Addr} {mv : Addr} {y : Int} {m : Int} {d : Int} {off : Int} (h : H p = some (.ins T.Calendar.C dx (calF na mv y m d off))) : Fd K H p "offset" (.int off) := ⟨_, _, _, h, T.Calendar.cl, T.n_Calendar_offset, calF_offset⟩
theorem calF_put_offset {na : Addr} {mv : Addr} {y : Int} {m : Int} {d : Int} {off : Int} {zz : Int} : putF "offset" (.int zz) (calF na mv y m d off) = calF na mv y m d zz := (put_past (by decide +kernel)).trans (congrArg (List.cons _) ((put_past (by decide +kernel)).trans (congrArg (List.cons _) ((put_past (by decide +kernel)).trans (congrArg (List.cons _) ((put_past (by decide +kernel)).trans (congrArg (List.cons _) ((put_past (by decide +kernel)).trans (congrArg (List.cons _) (put_here))))))))))
theorem calF_new {na : Addr} {mv : Addr} {y : Int} {m : Int} {d : Int} {off : Int} : putF "offset" (.int off) (putF "day" (.int d) (putF "month" (.int m) (putF "year" (.int y) (putF "mover" (.ref mv) (putF "name" (.ref na) ([])))))) = calF na mv y m d off := by rfl
def worksF (la : Addr) (lw : Addr) (lm : Addr) (ls : Addr) (lh : Addr) (lk : Addr) (lc : Addr) (drv : V) (sec : Int) (now : Int) : List (Str × V) := [("arbors", .ref la), ("wheels", .ref lw), ("meshes", .ref lm), ("stars", .ref ls), ("hands", .ref lh), ("strikers", .ref lk), ("calendars", .ref lc), ("driver", drv), ("seconds", .int sec), ("now", .int now)]
def worksK : List Str := ["arbors", "wheels", "meshes", "stars", "hands", "strikers", "calendars", "driver", "seconds", "now"]
theorem worksF_keys {la : Addr} {lw : Addr} {lm : Addr} {ls : Addr} {lh : Addr} {lk : Addr} {lc : Addr} {drv : V} {sec : Int} {now : Int} : (worksF la lw lm ls lh lk lc drv sec now).map (·.1) = worksK := rfl
theorem worksF_len {la : Addr} {lw : Addr} {lm : Addr} {ls : Addr} {lh : Addr} {lk : Addr} {lc : Addr} {drv : V} {sec : Int} {now : Int} : (worksF la lw lm ls lh lk lc drv sec now).length < 1000 := by show 10 < 1000; decide
theorem worksF_arbors {la : Addr} {lw : Addr} {lm : Addr} {ls : Addr} {lh : Addr} {lk : Addr} {lc : Addr} {drv : V} {sec : Int} {now : Int} : (worksF la lw lm ls lh lk lc drv sec now).lookup ("arbors" : Str) = some (.ref la) := lk_here
theorem Txt.fd_works_arbors {K : PySem.W.Frag} {mg : Str → Option Value} (T : Txt K mg) {H : Hp} {p dx : Addr} {la : Addr} {lw : Addr} {lm : Addr} {ls : Addr} {lh : Addr} {lk : Addr} {lc : Addr} {drv : V} {sec : Int} {now : Int} (h : H p = some (.ins T.Works.C dx (worksF la lw lm ls lh lk lc drv sec now))) : Fd K H p "arbors" (.ref la) := ⟨_, _, _, h, T.Works.cl, T.n_Works_arbors, worksF_arbors⟩
theorem worksF_wheels {la : Addr} {lw : Addr} {lm : Addr} {ls : Addr} {lh : Addr} {lk : Addr} {lc : Addr} {drv : V} {sec : Int} {now : Int} : (worksF la lw lm ls lh lk lc drv sec now).lookup ("wheels" : Str) = some (.ref lw) := (lk_past (by decide +kernel)).trans (lk_here)
theorem Txt.fd_works_wheels {K : PySem.W.Frag} {mg : Str → Option Value} (T : Txt K mg) {H : Hp} {p dx : Addr} {la : Addr} {lw : Addr} {lm : Addr} {ls : Addr} {lh : Addr} {lk : Addr} {lc : Addr} {drv : V} {sec : Int} {now : Int} (h : H p = some (.ins T.Works.C dx (worksF la lw lm ls lh lk lc drv sec now))) : Fd K H p "wheels" (.ref lw) := ⟨_, _, _, h, T.Works.cl, T.n_Works_wheels, worksF_wheels⟩
theorem worksF_meshes {la : Addr} {lw : Addr} {lm : Addr} {ls : Addr} {lh : Addr} {lk : Addr} {lc : Addr} {drv : V} {sec : Int} {now : Int} : (worksF la lw lm ls lh lk lc drv sec now).lookup ("meshes" : Str) = some (.ref lm) := (lk_past (by decide +kernel)).trans ((lk_past (by decide +kernel)).trans (lk_here))
theorem Txt.fd_works_meshes {K : PySem.W.Frag} {mg : Str → Option Value} (T : Txt K mg) {H : Hp} {p dx : Addr} {la : Addr} {lw : Addr} {lm : Addr} {ls : Addr} {lh : Addr} {lk : Addr} {lc : Addr} {drv : V} {sec : Int} {now : Int} (h : H p = some (.ins T.Works.C dx (worksF la lw lm ls lh lk lc drv sec now))) : Fd K H p "meshes" (.ref lm) := ⟨_, _, _, h, T.Works.cl, T.n_Works_meshes, worksF_meshes⟩
theorem worksF_stars {la : Addr} {lw : Addr} {lm : Addr} {ls : Addr} {lh : Addr} {lk : Addr} {lc : Addr} {drv : V} {sec : Int} {now : Int} : (worksF la lw lm ls lh lk lc drv sec now).lookup ("stars" : Str) = some (.ref ls) := (lk_past (by decide +kernel)).trans ((lk_past (by decide +kernel)).trans ((lk_past (by decide +kernel)).trans (lk_here)))
theorem Txt.fd_works_stars {K : PySem.W.Frag} {mg : Str → Option Value} (T : Txt K mg) {H : Hp} {p dx : Addr} {la : Addr} {lw : Addr} {lm : Addr} {ls : Addr} {lh : Addr} {lk : Addr} {lc : Addr} {drv : V} {sec : Int} {now : Int} (h : H p = some (.ins T.Works.C dx (worksF la lw lm ls lh lk lc drv sec now))) : Fd K H p "stars" (.ref ls) := ⟨_, _, _, h, T.Works.cl, T.n_Works_stars, worksF_stars⟩
theorem worksF_hands {la : Addr} {lw : Addr} {lm : Addr} {ls : Addr} {lh : Addr} {lk : Addr} {lc : Addr} {drv : V} {sec : Int} {now : Int} : (worksF la lw lm ls lh lk lc drv sec now).lookup ("hands" : Str) = some (.ref lh) := (lk_past (by decide +kernel)).trans ((lk_past (by decide +kernel)).trans ((lk_past (by decide +kernel)).trans ((lk_past (by decide +kernel)).trans (lk_here))))
theorem Txt.fd_works_hands {K : PySem.W.Frag} {mg : Str → Option Value} (T : Txt K mg) {H : Hp} {p dx : Addr} {la : Addr} {lw : Addr} {lm : Addr} {ls : Addr} {lh : Addr} {lk : Addr} {lc : Addr} {drv : V} {sec : Int} {now : Int} (h : H p = some (.ins T.Works.C dx (worksF la lw lm ls lh lk lc drv sec now))) : Fd K H p "hands" (.ref lh) := ⟨_, _, _, h, T.Works.cl, T.n_Works_hands, worksF_hands⟩
theorem worksF_strikers {la : Addr} {lw : Addr} {lm : Addr} {ls : Addr} {lh : Addr} {lk : Addr} {lc : Addr} {drv : V} {sec : Int} {now : Int} : (worksF la lw lm ls lh lk lc drv sec now).lookup ("strikers" : Str) = some (.ref lk) := (lk_past (by decide +kernel)).trans ((lk_past (by decide +kernel)).trans ((lk_past (by decide +kernel)).trans ((lk_past (by decide +kernel)).trans ((lk_past (by decide +kernel)).trans (lk_here)))))
theorem Txt.fd_works_strikers {K : PySem.W.Frag} {mg : Str → Option Value} (T : Txt K mg) {H : Hp} {p dx : Addr} {la : Addr} {lw : Addr} {lm : Addr} {ls : Addr} {lh : Addr} {lk : Addr} {lc : Addr} {drv : V} {sec : Int} {now : Int} (h : H p = some (.ins T.Works.C dx (worksF la lw lm ls lh lk lc drv sec now))) : Fd K H p "strikers" (.ref lk) := ⟨_, _, _, h, T.Works.cl, T.n_Works_strikers, worksF_strikers⟩
theorem worksF_calendars {la : Addr} {lw : Addr} {lm : Addr} {ls : Addr} {lh : Addr} {lk : Addr} {lc : Addr} {drv : V} {sec : Int} {now : Int} : (worksF la lw lm ls lh lk lc drv sec now).lookup ("calendars" : Str) = some (.ref lc) := (lk_past (by decide +kernel)).trans ((lk_past (by decide +kernel)).trans ((lk_past (by decide +kernel)).trans ((lk_past (by decide +kernel)).trans ((lk_past (by decide +kernel)).trans ((lk_past (by decide +kernel)).trans (lk_here))))))
theorem Txt.fd_works_calendars {K : PySem.W.Frag} {mg : Str → Option Value} (T : Txt K mg) {H : Hp} {p dx : Addr} {la : Addr} {lw : Addr} {lm : Addr} {ls : Addr} {lh : Addr} {lk : Addr} {lc : Addr} {drv : V} {sec : Int} {now : Int} (h : H p = some (.ins T.Works.C dx (worksF la lw lm ls lh lk lc drv sec now))) : Fd K H p "calendars" (.ref lc) := ⟨_, _, _, h, T.Works.cl, T.n_Works_calendars, worksF_calendars⟩
theorem worksF_driver {la : Addr} {lw : Addr} {lm : Addr} {ls : Addr} {lh : Addr} {lk : Addr} {lc : Addr} {drv : V} {sec : Int} {now : Int} : (worksF la lw lm ls lh lk lc drv sec now).lookup ("driver" : Str) = some (drv) := (lk_past (by decide +kernel)).trans ((lk_past (by decide +kernel)).trans ((lk_past (by decide +kernel)).trans ((lk_past (by decide +kernel)).trans ((lk_past (by decide +kernel)).trans ((lk_past (by decide +kernel)).trans ((lk_past (by decide +kernel)).trans (lk_here)))))))
theorem Txt.fd_works_driver {K : PySem.W.Frag} {mg : Str → Option Value} (T : Txt K mg) {H : Hp} {p dx : Addr} {la : Addr} {lw : Addr} {lm : Addr} {ls : Addr} {lh : Addr} {lk : Addr} {lc : Addr} {drv : V} {sec : Int} {now : Int} (h : H p = some (.ins T.Works.C dx (worksF la lw lm ls lh lk lc drv sec now))) : Fd K H p "driver" (drv) := ⟨_, _, _, h, T.Works.cl, T.n_Works_driver, worksF_driver⟩
theorem worksF_put_driver {la : Addr} {lw : Addr} {lm : Addr} {ls : Addr} {lh : Addr} {lk : Addr} {lc : Addr} {drv : V} {sec : Int} {now : Int} {zz : V} : putF "driver" (zz) (worksF la lw lm ls lh lk lc drv sec now) = worksF la lw lm ls lh lk lc zz sec now := (put_past (by decide +kernel)).trans (congrArg (List.cons _) ((put_past (by decide +kernel)).trans (congrArg (List.cons _) ((put_past (by decide +kernel)).trans (congrArg (List.cons _) ((put_past (by decide +kernel)).trans (congrArg (List.cons _) ((put_past (by decide +kernel)).trans (congrArg (List.cons _) ((put_past (by decide +kernel)).trans (congrArg (List.cons _) ((put_past (by decide +kernel)).trans (congrArg (List.cons _) (put_here))))))))))))))
theorem worksF_seconds {la : Addr} {lw : Addr} {lm : Addr} {ls : Addr} {lh : Addr} {lk : Addr} {lc : Addr} {drv : V} {sec : Int} {now : Int} : (worksF la lw lm ls lh lk lc drv sec now).lookup ("seconds" : Str) = some (.int sec) := (lk_past (by decide +kernel)).trans ((lk_past (by decide +kernel)).trans ((lk_past (by decide +kernel)).trans ((lk_past (by decide +kernel)).trans ((lk_past (by decide +kernel)).trans ((lk_past (by decide +kernel)).trans ((lk_past (by decide +kernel)).trans ((lk_past (by decide +kernel)).trans (lk_here))))))))
theorem Txt.fd_works_seconds {K : PySem.W.Frag} {mg : Str → Option Value} (T : Txt K mg) {H : Hp} {p dx : Addr} {la : Addr} {lw : Addr} {lm : Addr} {ls : Addr} {lh : Addr} {lk : Addr} {lc : Addr} {drv : V} {sec : Int} {now : Int} (h : H p = some (.ins T.Works.C dx (worksF la lw lm ls lh lk lc drv sec now))) : Fd K H p "seconds" (.int sec) := ⟨_, _, _, h, T.Works.cl, T.n_Works_seconds, worksF_seconds⟩
theorem worksF_put_seconds {la : Addr} {lw : Addr} {lm : Addr} {ls : Addr} {lh : Addr} {lk : Addr} {lc : Addr} {drv : V} {sec : Int} {now : Int} {zz : Int} : putF "seconds" (.int zz) (worksF la lw lm ls lh lk lc drv sec now) = worksF la lw lm ls lh lk lc drv zz now := (put_past (by decide +kernel)).trans (congrArg (List.cons _) ((put_past (by decide +kernel)).trans (congrArg (List.cons _) ((put_past (by decide +kernel)).trans (congrArg (List.cons _) ((put_past (by decide +kernel)).trans (congrArg (List.cons _) ((put_past (by decide +kernel)).trans (congrArg (List.cons _) ((put_past (by decide +kernel)).trans (congrArg (List.cons _) ((put_past (by decide +kernel)).trans (congrArg (List.cons _) ((put_past (by decide +kernel)).trans (congrArg (List.cons _) (put_here))))))))))))))))
theorem worksF_now {la : Addr} {lw : Addr} {lm : Addr} {ls : Addr} {lh : Addr} {lk : Addr} {lc : Addr} {drv : V} {sec : Int} {now : Int} : (worksF la lw lm ls lh lk lc drv sec now).lookup ("now" : Str) = some (.int now) := (lk_past (by decide +kernel)).trans ((lk_past (by decide +kernel)).trans ((lk_past (by decide +kernel)).trans ((lk_past (by decide +kernel)).trans ((lk_past (by decide +kernel)).trans ((lk_past (by decide +kernel)).trans ((lk_past (by decide +kernel)).trans ((lk_past (by decide +kernel)).trans ((lk_past (by decide +kernel)).trans (lk_here)))))))))
theorem Txt.fd_works_now {K : PySem.W.Frag} {mg : Str → Option Value} (T : Txt K mg) {H : Hp} {p dx : Addr} {la : Addr} {lw : Addr} {lm : Addr} {ls : Addr} {lh : Addr} {lk : Addr} {lc : Addr} {drv : V} {sec : Int} {now : Int} (h : H p = some (.ins T.Works.C dx (worksF la lw lm ls lh lk lc drv sec now))) : Fd K H p "now" (.int now) := ⟨_, _, _, h, T.Works.cl, T.n_Works_now, worksF_now⟩
theorem worksF_put_now {la : Addr} {lw : Addr} {lm : Addr} {ls : Addr} {lh : Addr} {lk : Addr} {lc : Addr} {drv : V} {sec : Int} {now : Int} {zz : Int} : putF "now" (.int zz) (worksF la lw lm ls lh lk lc drv sec now) = worksF la lw lm ls lh lk lc drv sec zz := (put_past (by decide +kernel)).trans (congrArg (List.cons _) ((put_past (by decide +kernel)).trans (congrArg (List.cons _) ((put_past (by decide +kernel)).trans (congrArg (List.cons _) ((put_past (by decide +kernel)).trans (congrArg (List.cons _) ((put_past (by decide +kernel)).trans (congrArg (List.cons _) ((put_past (by decide +kernel)).trans (congrArg (List.cons _) ((put_past (by decide +kernel)).trans (congrArg (List.cons _) ((put_past (by decide +kernel)).trans (congrArg (List.cons _) ((put_past (by decide +kernel)).trans (congrArg (List.cons _) (put_here))))))))))))))))))
theorem worksF_new {la : Addr} {lw : Addr} {lm : Addr} {ls : Addr} {lh : Addr} {lk : Addr} {lc : Addr} {drv : V} {sec : Int} {now : Int} : putF "now" (.int now) (putF "seconds" (.int sec) (putF "driver" (drv) (putF "calendars" (.ref lc) (putF "strikers" (.ref lk) (putF "hands" (.ref lh) (putF "stars" (.ref ls) (putF "meshes" (.ref lm) (putF "wheels" (.ref lw) (putF "arbors" (.ref la) ([])))))))))) = worksF la lw lm ls lh lk lc drv sec now := by rfl
def benchF (wk : V) : List (Str × V) := [("works", wk)]
def benchK : List Str := ["works"]
theorem benchF_keys {wk : V} : (benchF wk).map (·.1) = benchK := rfl
theorem benchF_len {wk : V} : (benchF wk).length < 1000 := by show 1 < 1000; decide
theorem benchF_works {wk : V} : (benchF wk).lookup ("works" : Str) = some (wk) := lk_here
theorem Txt.fd_bench_works {K : PySem.W.Frag} {mg : Str → Option Value} (T : Txt K mg) {H : Hp} {p dx : Addr} {wk : V} (h : H p = some (.ins T.Bench.C dx (benchF wk))) : Fd K H p "works" (wk) := ⟨_, _, _, h, T.Bench.cl, T.n_Bench_works, benchF_works⟩
theorem benchF_put_works {wk : V} {zz : V} : putF "works" (zz) (benchF wk) = benchF zz := put_here
theorem benchF_new {wk : V} : putF "works" (wk) ([]) = benchF wk := by rfl
end Cw

/-! The walk through motion: movers. -/
namespace Cw
open PySem PySem.Spec PyProof.Rows L2 Evl
open Mu07 (State Goes Star Q frac whole turns meanOf reaches)
def rateQ (s : Mu07.State) (i : Nat) : Q := s.rates.getD i (whole 0)
/-- p is the mover g, k deep at most -/
def IsMov (C : Addr) (H : Hp) (s : Mu07.State) : Nat → Goes → Addr → Prop
  | 0, _, _ => False
  | _ + 1, .arbor i, p => ∃ dx na pl, H p = some (.ins C dx (moverF na pl .non 1 (rateQ s i).n ((rateQ s i).d : Int))) ∧ Nm (rateQ s i) ∧ Bt 460 (rateQ s i).n ∧ Bt 460 ((rateQ s i).d : Int)
  | k + 1, .star i, p => ∃ (x : Star) (dx na : Addr) (pl : Int) (p' : Addr), s.works.stars[i]? = some x ∧ 2 ≤ x.steps ∧ x.steps ≤ 400 ∧ H p = some (.ins C dx (moverF na pl (.ref p') (x.steps : Int) 0 1)) ∧ IsMov C H s k x.by_ p'
theorem IsMov.ex {C : Addr} {H H' : Hp} {s : Mu07.State} : ∀ {k : Nat} {g : Goes} {p : Addr}, IsMov C H s k g p → Ex H H' → IsMov C H' s k g p
  | 0, _, _, h, _ => h.elim
  | k + 1, .arbor i, p, h, e => by
    obtain ⟨dx, na, pl, h1, h2⟩ := h
    exact ⟨dx, na, pl, e _ _ h1, h2⟩
  | k + 1, .star i, p, h, e => by
    obtain ⟨x, dx, na, pl, p', h1, h2, h3, h4, h5⟩ := h
    exact ⟨x, dx, na, pl, p', h1, h2, h3, e _ _ h4, h5.ex e⟩
theorem IsMov.deep {C : Addr} {H : Hp} {s : Mu07.State} : ∀ {k : Nat} {g : Goes} {p : Addr}, IsMov C H s k g p → Deep s k g
  | 0, _, _, h => h.elim
  | k + 1, .arbor i, p, h => by
    obtain ⟨dx, na, pl, h1, h2, _⟩ := h
    exact h2
  | k + 1, .star i, p, h => by
    obtain ⟨x, dx, na, pl, p', h1, h2, h3, h4, h5⟩ := h
    exact ⟨x, h1, h2, h5.deep⟩
theorem frac_bd {n d : Int} (h : d ≠ 0) : (frac n d).n.natAbs ≤ n.natAbs ∧ (frac n d).d ≤ d.natAbs := by
  rw [frac_eq h]
  refine ⟨?_, Nat.div_le_self _ _⟩
  have e : ((if d < 0 then (-1 : Int) else 1) * n).natAbs = n.natAbs := by split <;> omega
  have := Int.natAbs_ediv_le_natAbs ((if d < 0 then (-1 : Int) else 1) * n) ((Nat.gcd n.natAbs d.natAbs : Nat) : Int)
  rw [e] at this
  exact this
theorem small_bt {z : Int} (h : z.natAbs ≤ 100000000000) : Bt 37 z := Nat.lt_of_le_of_lt h (by decide)
theorem steps_bt {n : Nat} (h : n ≤ 400) : Bt 9 (n : Int) := by
  unfold Bt
  have : (2 : Nat) ^ 9 = 512 := by decide
  omega
theorem mean_bd {C : Addr} {H : Hp} {s : Mu07.State} : ∀ {k : Nat} {g : Goes} {p : Addr}, IsMov C H s k g p → Bt (460 + 9 * k) (meanOf s k g).n ∧ Bt (460 + 9 * k) ((meanOf s k g).d : Int)
  | 0, _, _, h => h.elim
  | k + 1, .arbor i, p, h => by
    obtain ⟨dx, na, pl, h1, h2, h3, h4⟩ := h
    exact ⟨h3.up (by omega), h4.up (by omega)⟩
  | k + 1, .star i, p, h => by
    obtain ⟨x, dx, na, pl, p', h1, h2, h3, h4, h5⟩ := h
    obtain ⟨a, b⟩ := mean_bd h5
    have e : meanOf s (k + 1) (.star i) = frac (meanOf s k x.by_).n (((meanOf s k x.by_).d : Int) * (x.steps : Int)) := by
      show (match s.works.stars[i]? with | some x => (meanOf s k x.by_).over (whole (x.steps : Int)) | none => whole 0) = _
      rw [h1]
      exact mean_star (mean_nm h5.deep) (by omega)
    rw [e]
    have np := (mean_nm h5.deep).pos
    have d0 : (((meanOf s k x.by_).d : Int) * (x.steps : Int)) ≠ 0 := by
      have : (0 : Int) < ((meanOf s k x.by_).d : Int) * (x.steps : Int) := Int.mul_pos (by omega) (by omega)
      omega
    obtain ⟨f1, f2⟩ := frac_bd (n := (meanOf s k x.by_).n) d0
    have m := b.mul (steps_bt h3)
    refine ⟨Nat.lt_of_le_of_lt f1 (a.up (by omega)), ?_⟩
    have : (((frac (meanOf s k x.by_).n (((meanOf s k x.by_).d : Int) * (x.steps : Int))).d : Nat) : Int).natAbs ≤ (((meanOf s k x.by_).d : Int) * (x.steps : Int)).natAbs := by omega
    exact Nat.lt_of_le_of_lt this (m.up (by omega))
section
variable {P : Program} {w : World} {K : PySem.W.Frag} {mg : Str → Option Value} {base : Heap} (T : Txt K mg)
/-- nothing can be asked of what is 0 deep -/
theorem no_ok {f : Addr} {fd : FuncData} {ps : List Str} {sp : Sp} {k : Nat} (h : ∀ vs H Q E, ¬ sp vs H Q E) : FnOk P w K mg base CX0 k f fd ps sp :=
  ⟨fun vs H Q E q => absurd q (h vs H Q E), fun A outer s H args us vs Q E _ _ _ _ q => absurd q (h vs H Q E)⟩
def pRateOf (C : Addr) (k : Nat) : List V → Hp → List V → Prop := fun vs H xs => ∃ (s : Mu07.State) (g : Goes) (p : Addr), vs = [.ref p] ∧ IsMov C H s k g p ∧ xs = fracV (meanOf s k g)
theorem rate_of_step {k : Nat} (hk : k < 8) (G : FnOk P w K mg base CX0 (k + 2) T.rate_of.f T.rate_of.fd ["mover"] (spU (pRateOf T.Mover.C k))) : FnOk P w K mg base CX0 (k + 3) T.rate_of.f T.rate_of.fd ["mover"] (spU (pRateOf T.Mover.C (k + 1))) := by
  refine T.rate_of.F.ok sc_rate_of (fun vs H Q E h => ?_) (fun cdv A outer s H vs Q E hr h => ?_)
  · obtain ⟨z, ⟨s, g, p, rfl, _⟩, _⟩ := h
    rfl
  · obtain ⟨z, ⟨st, g, p, rfl, hm, rfl⟩, q⟩ := h
    refine ⟨_, (pss_cons (ps_if (pt_cmpR op_isN (pe_fld (pv 0) rfl) pe_non (nomark _))
    (pss_one (ps_ret (pe_tup (pa_cons (pe_fld (pv 0) rfl) (pa_cons (pe_fld (pv 0) rfl) pa_nil))))) pss_nil)
    (pss_cons (ps_set (i := 1) sc_rate_of.nd rfl (Or.inl rfl) (pe_call G (hr.mono (by omega)) (by rfl) T.rate_of.g T.rate_of.F.kp T.rate_of.b .nil pass0 (pa_cons (pe_fld (pv 0) rfl) pa_nil)))
    (pss_one (ps_ret (pe_call (ok_lowest T) (hr.mono (by omega)) (by rfl) T.lowest.g T.lowest.F.kp T.lowest.b .nil pass0 (pa_cons (pe_ix ix_tup (pv 1) pe_int (fun _ _ => rfl)) (pa_cons (pe_op op_mulW (pe_ix ix_tup (pv 1) pe_int (fun _ _ => rfl)) (pe_fld (pv 0) rfl)) pa_nil))))))), ?_⟩
    cases g with
    | arbor i =>
      obtain ⟨dx, na, pl, h1, h2, h3, h4⟩ := hm
      refine q_when (et_test (ev_op (ev_fld (ev_var rfl) (T.fd_mover_source h1)) ev_c rv_isN)) (fun hb H2 e2 => ?_) (fun hb H2 e2 => ?_)
      · refine s_retU (eu_tup (ea_cons (ev_fld (ev_var rfl) (T.fd_mover_above (e2 _ _ h1))) (ea_cons (ev_fld (ev_var rfl) (T.fd_mover_below (e2 _ _ h1))) ea_nil)) (Nat.le_of_ble_eq_true rfl)) fun t H3 ht e3 h5 => ?_
        exact q t H3 (fresh_back e2 ht) (e2.trans e3) h5
      · exact absurd hb (by decide)
    | star i =>
      have hm0 := hm
      obtain ⟨x, dx, na, pl, p', h1, h2, h3, h4, h5⟩ := hm
      refine q_when (et_test (ev_op (ev_fld (ev_var rfl) (T.fd_mover_source h4)) ev_c rv_isN)) (fun hb H2 e2 => ?_) (fun hb H2 e2 => ?_)
      · exact absurd (of_decide_eq_true hb) fun z => by cases z
      · refine q_asgU (eu_call (ea_cons (ev_fld (ev_var rfl) (T.fd_mover_source (e2 _ _ h4))) ea_nil) (su_of fun H3 e3 => ⟨st, x.by_, p', rfl, h5.ex (e2.trans e3), rfl⟩)) fun t H3 nt e3 h6 => ?_
        obtain ⟨b1, b2⟩ := mean_bd h5
        have np := (mean_nm h5.deep).pos
        have e : meanOf st (k + 1) (.star i) = frac (meanOf st k x.by_).n (((meanOf st k x.by_).d : Int) * (x.steps : Int)) := by
          show (match st.works.stars[i]? with | some x => (meanOf st k x.by_).over (whole (x.steps : Int)) | none => whole 0) = _
          rw [h1]
          exact mean_star (mean_nm h5.deep) (by omega)
        rw [e] at q
        have d0 : (((meanOf st k x.by_).d : Int) * (x.steps : Int)) ≠ 0 := by
          have : (0 : Int) < ((meanOf st k x.by_).d : Int) * (x.steps : Int) := Int.mul_pos (by omega) (by omega)
          omega
        have sm := (b2.mul (steps_bt h3)).sm (by omega)
        refine s_retU (eu_call (ea_cons (ev_ixT (j := 0) (ev_var rfl) ev_c (SqT.of h6) rfl rfl) (ea_cons (ev_iC (ev_ixT (j := 1) (ev_var rfl) ev_c (SqT.of h6) rfl rfl) (ev_fld (ev_var rfl) (T.fd_mover_steps (e3 _ _ (e2 _ _ h4)))) (b2.cmul (steps_bt h3) (by omega) (by omega) (by omega))) ea_nil)) (su_of fun H4 e4 => ⟨_, _, rfl, d0, sm, rfl⟩)) fun t2 H4 ht2 e4 h7 => ?_
        exact q t2 H4 (fresh_back (e2.trans e3) ht2) ((e2.trans e3).trans e4) h7
theorem ok_rate_ofK : ∀ k, k ≤ 8 → FnOk P w K mg base CX0 (k + 2) T.rate_of.f T.rate_of.fd ["mover"] (spU (pRateOf T.Mover.C k))
  | 0, _ => no_ok fun vs H Q E h => by
    obtain ⟨z, ⟨s, g, p, _, hm, _⟩, _⟩ := h
    exact hm
  | k + 1, h => rate_of_step T (by omega) (ok_rate_ofK k (by omega))
/-- a mover's mean rate -/
theorem IsMov.up {C : Addr} {H : Hp} {s : Mu07.State} : ∀ {k n : Nat} {g : Goes} {p : Addr}, IsMov C H s k g p → k ≤ n → IsMov C H s n g p
  | 0, _, _, _, h, _ => h.elim
  | k + 1, n, .arbor i, p, h, hn => by
    obtain ⟨m, rfl⟩ : ∃ m, n = m + 1 := ⟨n - 1, by omega⟩
    exact h
  | k + 1, n, .star i, p, h, hn => by
    obtain ⟨m, rfl⟩ : ∃ m, n = m + 1 := ⟨n - 1, by omega⟩
    obtain ⟨x, dx, na, pl, p', h1, h2, h3, h4, h5⟩ := h
    exact ⟨x, dx, na, pl, p', h1, h2, h3, h4, h5.up (by omega)⟩
theorem ok_rate_of : FnOk P w K mg base CX0 10 T.rate_of.f T.rate_of.fd ["mover"] (spU (pRateOf T.Mover.C 8)) := ok_rate_ofK T 8 (Nat.le_refl _)
def pTowards : List V → Hp → V → Prop := fun vs _ z => ∃ a b : Int, vs = [.int a, .int b] ∧ 0 < b ∧ Sm b ∧ z = .int (Int.tdiv a b)
theorem ok_towards_zero : FnOk P w K mg base CX0 1 T.towards_zero.f T.towards_zero.fd ["above", "below"] (spV pTowards) := by
  refine T.towards_zero.F.ok sc_towards_zero (fun vs H Q E h => ?_) (fun cdv A outer s H vs Q E hr h => ?_)
  · obtain ⟨z, ⟨a, b, rfl, _⟩, _⟩ := h
    rfl
  · obtain ⟨z, ⟨a, b, rfl, h0, hs, rfl⟩, k⟩ := h
    refine ⟨_, (pss_cons (ps_if (pt_cmpR op_ge (pv 0) pe_int (nomark _))
    (pss_one (ps_ret (pe_op op_fdivW (pv 0) (pv 1)))) pss_nil)
    (pss_one (ps_ret (pe_un un_neg (pe_op op_fdivW (pe_un un_neg (pv 0)) (pv 1)))))), ?_⟩
    have cd : ∀ i, CDivW i b := fun i => wide_div (b := 9000) h0 hs (by decide) (by decide)
    refine q_when (et_test (ev_i (ev_var rfl) ev_c)) (fun hb H2 e2 => ?_) (fun hb H2 e2 => ?_)
    · have hb := of_decide_eq_true hb
      rw [Int.tdiv_eq_ediv_of_nonneg hb] at k
      exact s_ret (ev_iC (ev_var rfl) (ev_var rfl) (cd _)) fun H3 e3 => k H3 (e2.trans e3)
    · have hb := of_decide_eq_false hb
      have e : Int.tdiv a b = -((-a) / b) := by
        rw [← Int.tdiv_eq_ediv_of_nonneg (by omega : 0 ≤ -a), Int.neg_tdiv]
        omega
      rw [e] at k
      exact s_ret (ev_neg (ev_iC (ev_neg (ev_var rfl)) (ev_var rfl) (cd _))) fun H3 e3 => k H3 (e2.trans e3)
/-! turned and whole_turns call each other -/
def pTurned (C : Addr) (k : Nat) : List V → Hp → List V → Prop := fun vs H xs => ∃ (s : Mu07.State) (g : Goes) (p : Addr) (t : Nat), vs = [.ref p, .int t] ∧ IsMov C H s k g p ∧ Bt 2000 (t : Int) ∧ xs = [.int (turnedZ s k g t).1, .int (turnedZ s k g t).2]
def pWhole (C : Addr) (k : Nat) : List V → Hp → V → Prop := fun vs H z => ∃ (s : Mu07.State) (g : Goes) (p : Addr) (t : Nat), vs = [.ref p, .int t] ∧ IsMov C H s k g p ∧ Bt 2000 (t : Int) ∧ z = .int (turns s k g t)
theorem turned_bd {C : Addr} {H : Hp} {s : Mu07.State} {t : Nat} (ht : Bt 2000 (t : Int)) : ∀ {k : Nat} {g : Goes} {p : Addr}, IsMov C H s k g p → Bt 2460 (turnedZ s k g t).1 ∧ Bt 460 (turnedZ s k g t).2 ∧ Bt 2460 (turns s k g t)
  | 0, _, _, h => h.elim
  | k + 1, .arbor i, p, h => by
    have hd := h.deep
    have te := turns_eq t hd
    obtain ⟨dx, na, pl, h1, h2, h3, h4⟩ := h
    have m : Bt 2460 ((rateQ s i).n * (t : Int)) := (h3.mul ht).up (by omega)
    refine ⟨m, h4, ?_⟩
    rw [te]
    refine Nat.lt_of_le_of_lt ?_ m
    rw [Int.natAbs_tdiv]
    exact Nat.div_le_self _ _
  | k + 1, .star i, p, h => by
    have hd := h.deep
    have te := turns_eq t hd
    obtain ⟨x, dx, na, pl, p', h1, h2, h3, h4, h5⟩ := h
    obtain ⟨_, _, b⟩ := turned_bd ht h5
    rw [te, turnedZ_star h1]
    refine ⟨b, (steps_bt h3).up (by omega), ?_⟩
    refine Nat.lt_of_le_of_lt ?_ b
    rw [Int.natAbs_tdiv]
    exact Nat.div_le_self _ _
theorem turned_step {k : Nat} (hk : k < 8) (G : FnOk P w K mg base CX0 (2 * k + 1) T.whole_turns.f T.whole_turns.fd ["mover", "time"] (spV (pWhole T.Mover.C k))) : FnOk P w K mg base CX0 (2 * k + 2) T.turned.f T.turned.fd ["mover", "time"] (spU (pTurned T.Mover.C (k + 1))) := by
  refine T.turned.F.ok sc_turned (fun vs H Q E h => ?_) (fun cdv A outer s H vs Q E hr h => ?_)
  · obtain ⟨z, ⟨s, g, p, t, rfl, _⟩, _⟩ := h
    rfl
  · obtain ⟨z, ⟨st, g, p, t, rfl, hm, ht, rfl⟩, q⟩ := h
    refine ⟨_, (pss_cons (ps_if (pt_cmpR op_isN (pe_fld (pv 0) rfl) pe_non (nomark _))
    (pss_one (ps_ret (pe_tup (pa_cons (pe_op op_mulW (pe_fld (pv 0) rfl) (pv 1)) (pa_cons (pe_fld (pv 0) rfl) pa_nil))))) pss_nil)
    (pss_one (ps_ret (pe_tup (pa_cons (pe_call G (hr.mono (by omega)) (by rfl) T.whole_turns.g T.whole_turns.F.kp T.whole_turns.b .nil pass0 (pa_cons (pe_fld (pv 0) rfl) (pa_cons (pv 1) pa_nil))) (pa_cons (pe_fld (pv 0) rfl) pa_nil)))))), ?_⟩
    cases g with
    | arbor i =>
      obtain ⟨dx, na, pl, h1, h2, h3, h4⟩ := hm
      refine q_when (et_test (ev_op (ev_fld (ev_var rfl) (T.fd_mover_source h1)) ev_c rv_isN)) (fun hb H2 e2 => ?_) (fun hb H2 e2 => ?_)
      · refine s_retU (eu_tup (ea_cons (ev_iC (ev_fld (ev_var rfl) (T.fd_mover_above (e2 _ _ h1))) (ev_var rfl) (h3.cmul ht (by decide) (by decide) (by decide))) (ea_cons (ev_fld (ev_var rfl) (T.fd_mover_below (e2 _ _ h1))) ea_nil)) (Nat.le_of_ble_eq_true rfl)) fun u H3 hu e3 h5 => ?_
        exact q u H3 (fresh_back e2 hu) (e2.trans e3) h5
      · exact absurd hb (by decide)
    | star i =>
      obtain ⟨x, dx, na, pl, p', h1, h2, h3, h4, h5⟩ := hm
      refine q_when (et_test (ev_op (ev_fld (ev_var rfl) (T.fd_mover_source h4)) ev_c rv_isN)) (fun hb H2 e2 => ?_) (fun hb H2 e2 => ?_)
      · exact absurd (of_decide_eq_true hb) fun z => by cases z
      · rw [turnedZ_star h1] at q
        refine s_retU (eu_tup (ea_cons (ev_call (ea_cons (ev_fld (ev_var rfl) (T.fd_mover_source (e2 _ _ h4))) (ea_cons (ev_var rfl) ea_nil)) (sv_of fun H3 e3 => ⟨st, x.by_, p', t, rfl, h5.ex (e2.trans e3), ht, rfl⟩)) (ea_cons (ev_fld (ev_var rfl) (T.fd_mover_steps (e2 _ _ h4))) ea_nil)) (Nat.le_of_ble_eq_true rfl)) fun u H3 hu e3 h6 => ?_
        exact q u H3 (fresh_back e2 hu) (e2.trans e3) h6
theorem whole_step {k : Nat} (hk : k < 8) (G : FnOk P w K mg base CX0 (2 * k + 2) T.turned.f T.turned.fd ["mover", "time"] (spU (pTurned T.Mover.C (k + 1)))) : FnOk P w K mg base CX0 (2 * k + 3) T.whole_turns.f T.whole_turns.fd ["mover", "time"] (spV (pWhole T.Mover.C (k + 1))) := by
  refine T.whole_turns.F.ok sc_whole_turns (fun vs H Q E h => ?_) (fun cdv A outer s H vs Q E hr h => ?_)
  · obtain ⟨z, ⟨s, g, p, t, rfl, _⟩, _⟩ := h
    rfl
  · obtain ⟨z, ⟨st, g, p, t, rfl, hm, ht, rfl⟩, q⟩ := h
    refine ⟨_, (pss_cons (ps_set (i := 2) sc_whole_turns.nd rfl (Or.inl rfl) (pe_call G (hr.mono (by omega)) (by rfl) T.turned.g T.turned.F.kp T.turned.b .nil pass0 (pa_cons (pv 0) (pa_cons (pv 1) pa_nil))))
    (pss_one (ps_ret (pe_call (ok_towards_zero T) (hr.mono (by omega)) (by rfl) T.towards_zero.g T.towards_zero.F.kp T.towards_zero.b .nil pass0 (pa_cons (pe_ix ix_tup (pv 2) pe_int (fun _ _ => rfl)) (pa_cons (pe_ix ix_tup (pv 2) pe_int (fun _ _ => rfl)) pa_nil)))))), ?_⟩
    obtain ⟨b1, b2, _⟩ := turned_bd ht hm
    have pos := turnedZ_pos t hm.deep
    rw [turns_eq t hm.deep] at q
    refine q_asgU (eu_call (ea_cons (ev_var rfl) (ea_cons (ev_var rfl) ea_nil)) (su_of fun H3 e3 => ⟨st, g, p, t, rfl, hm.ex e3, ht, rfl⟩)) fun u H3 nu e3 h6 => ?_
    exact s_ret (ev_call (ea_cons (ev_ixT (j := 0) (ev_var rfl) ev_c (SqT.of h6) rfl rfl) (ea_cons (ev_ixT (j := 1) (ev_var rfl) ev_c (SqT.of h6) rfl rfl) ea_nil)) (sv_of fun _ _ => ⟨_, _, rfl, pos, b2.sm (by decide), rfl⟩)) fun H4 e4 => q H4 (e3.trans e4)
theorem ok_wholeK : ∀ k, k ≤ 8 → FnOk P w K mg base CX0 (2 * k + 1) T.whole_turns.f T.whole_turns.fd ["mover", "time"] (spV (pWhole T.Mover.C k))
  | 0, _ => no_ok fun vs H Q E h => by
    obtain ⟨z, ⟨s, g, p, t, _, hm, _⟩, _⟩ := h
    exact hm
  | k + 1, h => whole_step T (by omega) (turned_step T (by omega) (ok_wholeK k (by omega)))
theorem ok_whole_turns : FnOk P w K mg base CX0 17 T.whole_turns.f T.whole_turns.fd ["mover", "time"] (spV (pWhole T.Mover.C 8)) := ok_wholeK T 8 (Nat.le_refl _)
theorem ok_turned : FnOk P w K mg base CX0 16 T.turned.f T.turned.fd ["mover", "time"] (spU (pTurned T.Mover.C 8)) := turned_step T (by decide) (ok_wholeK T 7 (by decide))
end
end Cw

/-! The walk through motion: hands, first seconds. -/
namespace Cw
open PySem PySem.Spec PyProof.Rows L2 Evl
open Mu07 (State Goes Star Q frac whole turns meanOf reaches)
/-- p is the hand h -/
def IsHand (CM CH : Addr) (H : Hp) (s : Mu07.State) (h : Nat) (p : Addr) : Prop := ∃ (x : Mu07.Hand) (dx na mp : Addr), s.works.hands[h]? = some x ∧ H p = some (.ins CH dx (handF na mp (x.marks : Int) ((x.first : Int) + s.set.getD h 0))) ∧ IsMov CM H s 8 x.on mp ∧ 1 ≤ x.marks ∧ x.marks ≤ 1000 ∧ Bt 100 ((x.first : Int) + s.set.getD h 0)
theorem IsHand.ex {CM CH : Addr} {H H' : Hp} {s : Mu07.State} {h : Nat} {p : Addr} (a : IsHand CM CH H s h p) (e : Ex H H') : IsHand CM CH H' s h p := by
  obtain ⟨x, dx, na, mp, h1, h2, h3, h4⟩ := a
  exact ⟨x, dx, na, mp, h1, e _ _ h2, h3.ex e, h4⟩
/-- what is struck by a hand: its marks instead of 0 -/
def struckBy (s : Mu07.State) (h t : Nat) : Nat := if (Mu07.shows s h t).toNat = 0 then ((s.works.hands[h]?).map fun (y : Mu07.Hand) => y.marks).getD 0 else (Mu07.shows s h t).toNat
theorem shows_nn {s : Mu07.State} {h t : Nat} {x : Mu07.Hand} (hx : s.works.hands[h]? = some x) (hm : 1 ≤ x.marks) : 0 ≤ Mu07.shows s h t := by
  unfold Mu07.shows
  rw [hx]
  exact Int.emod_nonneg _ (by omega)
section
variable {P : Program} {w : World} {K : PySem.W.Frag} {mg : Str → Option Value} {base : Heap} (T : Txt K mg)
def pShows (CM CH : Addr) : List V → Hp → V → Prop := fun vs H z => ∃ (s : Mu07.State) (h : Nat) (p : Addr) (t : Nat), vs = [.ref p, .int t] ∧ IsHand CM CH H s h p ∧ Bt 2000 (t : Int) ∧ z = .int (Mu07.shows s h t)
theorem marks_bt {n : Nat} (h : n ≤ 1000) : Bt 10 (n : Int) := by
  unfold Bt
  have : (2 : Nat) ^ 10 = 1024 := by decide
  omega
theorem ok_shows : FnOk P w K mg base CX0 17 T.shows.f T.shows.fd ["hand", "time"] (spV (pShows T.Mover.C T.Hand.C)) := by
  refine T.shows.F.ok sc_shows (fun vs H Q E h => ?_) (fun cdv A outer s H vs Q E hr h => ?_)
  · obtain ⟨z, ⟨s, h, p, t, rfl, _⟩, _⟩ := h
    rfl
  · obtain ⟨z, ⟨st, h, p, t, rfl, hh, ht, rfl⟩, q⟩ := h
    refine ⟨_, (pss_cons (ps_set (i := 2) sc_shows.nd rfl (Or.inl rfl) (pe_call (ok_turned T) (hr.mono (by decide)) (by rfl) T.turned.g T.turned.F.kp T.turned.b .nil pass0 (pa_cons (pe_fld (pv 0) rfl) (pa_cons (pv 1) pa_nil))))
    (pss_one (ps_ret (pe_op op_mod (pe_op op_add (pe_fld (pv 0) rfl) (pe_op op_fdivW (pe_op op_mulW (pe_fld (pv 0) rfl) (pe_ix ix_tup (pv 2) pe_int (fun _ _ => rfl))) (pe_ix ix_tup (pv 2) pe_int (fun _ _ => rfl)))) (pe_fld (pv 0) rfl))))), ?_⟩
    obtain ⟨x, dx, na, mp, hx, hp, hm, m1, m2, ho⟩ := hh
    obtain ⟨b1, b2, _⟩ := turned_bd ht hm
    have pos := turnedZ_pos t hm.deep
    rw [shows_eq hx hm.deep (Nat.le_refl _)] at q
    refine q_asgU (eu_call (ea_cons (ev_fld (ev_var rfl) (T.fd_hand_mover hp)) (ea_cons (ev_var rfl) ea_nil)) (su_of fun H3 e3 => ⟨st, x.on, mp, t, rfl, hm.ex e3, ht, rfl⟩)) fun u H3 nu e3 h6 => ?_
    have hp3 := e3 _ _ hp
    have mb := marks_bt m2
    refine s_ret (ev_iC (ev_i (ev_fld (ev_var rfl) (T.fd_hand_offset hp3)) (ev_iC (ev_iC (ev_fld (ev_var rfl) (T.fd_hand_marks hp3)) (ev_ixT (j := 0) (ev_var rfl) ev_c (SqT.of h6) rfl rfl) (mb.cmul b1 (by decide) (by decide) (by decide))) (ev_ixT (j := 1) (ev_var rfl) ev_c (SqT.of h6) rfl rfl) (wide_div (b := 460) pos b2 (by decide) (by decide)))) (ev_fld (ev_var rfl) (T.fd_hand_marks hp3)) (by show (0 : Int) < x.marks; omega)) fun H4 e4 => q H4 (e3.trans e4)
def pStruckBy (CM CH : Addr) : List V → Hp → V → Prop := fun vs H z => ∃ (s : Mu07.State) (h : Nat) (p : Addr) (t : Nat), vs = [.ref p, .int t] ∧ IsHand CM CH H s h p ∧ Bt 2000 (t : Int) ∧ z = .int (struckBy s h t)
theorem ok_struck_by : FnOk P w K mg base CX0 18 T.struck_by.f T.struck_by.fd ["hand", "time"] (spV (pStruckBy T.Mover.C T.Hand.C)) := by
  refine T.struck_by.F.ok sc_struck_by (fun vs H Q E h => ?_) (fun cdv A outer s H vs Q E hr h => ?_)
  · obtain ⟨z, ⟨s, h, p, t, rfl, _⟩, _⟩ := h
    rfl
  · obtain ⟨z, ⟨st, h, p, t, rfl, hh, ht, rfl⟩, q⟩ := h
    refine ⟨_, (pss_cons (ps_set (i := 2) sc_struck_by.nd rfl (Or.inl rfl) (pe_call (ok_shows T) (hr.mono (by decide)) (by rfl) T.shows.g T.shows.F.kp T.shows.b .nil pass0 (pa_cons (pv 0) (pa_cons (pv 1) pa_nil))))
    (pss_cons (ps_if (pt_cmpR op_eq (pv 2) pe_int (nomark _))
    (pss_one (ps_ret (pe_fld (pv 0) rfl))) pss_nil)
    (pss_one (ps_ret (pv 2))))), ?_⟩
    refine q_asg (ev_call (ea_cons (ev_var rfl) (ea_cons (ev_var rfl) ea_nil)) (sv_of fun H3 e3 => ⟨st, h, p, t, rfl, hh.ex e3, ht, rfl⟩)) fun H3 e3 => ?_
    have hh3 := hh.ex e3
    obtain ⟨x, dx, na, mp, hx, hp, hm, m1, m2, ho⟩ := hh3
    have nn := shows_nn (t := t) hx m1
    refine q_when (et_test (ev_eqI (ev_var rfl) ev_c)) (fun hb H4 e4 => ?_) (fun hb H4 e4 => ?_)
    · have hb : Mu07.shows st h t = 0 := beq_iff_eq.mp hb
      have e : struckBy st h t = x.marks := by
        unfold struckBy
        rw [hb, hx]
        rfl
      rw [e] at q
      exact s_ret (ev_fld (ev_var rfl) (T.fd_hand_marks (e4 _ _ hp))) fun H5 e5 => q H5 ((e3.trans e4).trans e5)
    · have hb : ¬ Mu07.shows st h t = 0 := by simpa using hb
      have e : ((struckBy st h t : Nat) : Int) = Mu07.shows st h t := by
        unfold struckBy
        rw [if_neg (by omega)]
        omega
      rw [e] at q
      exact s_ret (ev_var rfl) fun H5 e5 => q H5 ((e3.trans e4).trans e5)
def pForward (C : Addr) : List V → Hp → V → Prop := fun vs H z => ∃ (s : Mu07.State) (g : Goes) (p : Addr), vs = [.ref p] ∧ IsMov C H s 8 g p ∧ z = .bl (decide (0 < (meanOf s 8 g).n))
theorem ok_turns_forward : FnOk P w K mg base CX0 11 T.turns_forward.f T.turns_forward.fd ["mover"] (spV (pForward T.Mover.C)) := by
  refine T.turns_forward.F.ok sc_turns_forward (fun vs H Q E h => ?_) (fun cdv A outer s H vs Q E hr h => ?_)
  · obtain ⟨z, ⟨s, g, p, rfl, _⟩, _⟩ := h
    rfl
  · obtain ⟨z, ⟨st, g, p, rfl, hm, rfl⟩, q⟩ := h
    refine ⟨_, (pss_one (ps_ret (pe_cmpR op_gt (pe_ix ix_tup (pe_call (ok_rate_of T) (hr.mono (by decide)) (by rfl) T.rate_of.g T.rate_of.F.kp T.rate_of.b .nil pass0 (pa_cons (pv 0) pa_nil)) pe_int (fun _ _ => rfl)) pe_int (nomark _)))), ?_⟩
    exact s_ret (ev_i (ev_ixU (j := 0) (eu_call (ea_cons (ev_var rfl) ea_nil) (su_of fun H3 e3 => ⟨st, g, p, rfl, hm.ex e3, rfl⟩)) (fun _ _ => ev_c) rfl rfl) ev_c) q
/-- down along the movers -/
def pFirst (C : Addr) : List V → Hp → V → Prop := fun vs H z => ∃ (s : Mu07.State) (g : Goes) (p : Addr) (r sec : Nat), vs = [.ref p, .int r] ∧ IsMov C H s 8 g p ∧ Bt 3000 (r : Int) ∧ reaches s 8 g r = some sec ∧ z = .int sec
theorem ok_first_second : FnOk P w K mg base CX0 1 T.first_second.f T.first_second.fd ["mover", "turns"] (spV (pFirst T.Mover.C)) := by
  refine T.first_second.F.ok sc_first_second (fun vs H Q E h => ?_) (fun cdv A outer s H vs Q E hr h => ?_)
  · obtain ⟨z, ⟨s, g, p, r, sec, rfl, _⟩, _⟩ := h
    rfl
  · obtain ⟨z, ⟨st, g, p, r, sec, rfl, hm, hrb, hsec, rfl⟩, q⟩ := h
    refine ⟨_, (pss_cons (ps_while PassesOwn.never (pt_cmpR op_notN (pe_fld (pv 0) rfl) pe_non (nomark _))
    (pss_cons (ps_set (i := 1) sc_first_second.nd rfl (Or.inl rfl) (pe_op op_mulW (pv 1) (pe_fld (pv 0) rfl)))
    (pss_one (ps_set (i := 0) sc_first_second.nd rfl (Or.inl rfl) (pe_fld (pv 0) rfl)))))
    (pss_one (ps_ret (pe_un un_neg (pe_op op_fdivW (pe_op op_mulW (pe_un un_neg (pv 1)) (pe_fld (pv 0) rfl)) (pe_fld (pv 0) rfl)))))), ?_⟩
    refine q_while (fun n σ' H' => ∃ (g : Goes) (p : Addr) (r : Nat), σ' = [some (.ref p), some (.int r)] ∧ Ex H H' ∧ n ≤ 8 ∧ IsMov T.Mover.C H st n g p ∧ Bt (3000 + 9 * (8 - n)) (r : Int) ∧ reaches st n g r = some sec) 8 ⟨g, p, r, rfl, Ex.refl H, Nat.le_refl _, hm, hrb.up (by decide), hsec⟩ fun n σ' H' hw => ?_
    obtain ⟨g, p, r, rfl, e, n8, hm, hrb, hsec⟩ := hw
    cases n with
    | zero => exact hm.elim
    | succ n =>
      cases g with
      | arbor i =>
        have hd := hm.deep
        obtain ⟨dx, na, pl, h1, h2, h3, h4⟩ := hm
        have h1 := e _ _ h1
        refine ⟨_, et_test (ev_op (ev_fld (ev_var rfl) (T.fd_mover_source h1)) ev_c rv_notN), fun hb H2 e2 => ?_, fun hb H2 e2 => ?_⟩
        · exact absurd hb (by decide)
        · have re := reach_eq r hd
          rw [hsec] at re
          have re : some sec = if (rateQ st i).n ≤ 0 then none else some (-((-(r : Int) * ((rateQ st i).d : Int)) / (rateQ st i).n)).toNat := re
          have np : ¬ (rateQ st i).n ≤ 0 := fun z => by
            rw [if_pos z] at re
            cases re
          rw [if_neg np] at re
          have re := Option.some.inj re
          have nn : 0 ≤ -((-(r : Int) * ((rateQ st i).d : Int)) / (rateQ st i).n) := by
            have a : 0 ≤ (r : Int) * ((rateQ st i).d : Int) := Int.mul_nonneg (by omega) (by omega)
            have b : (-(r : Int) * ((rateQ st i).d : Int)) / (rateQ st i).n ≤ 0 := by
              rw [Int.neg_mul]
              have := Int.ediv_le_ediv (c := (rateQ st i).n) (by omega) (show -((r : Int) * ((rateQ st i).d : Int)) ≤ 0 by omega)
              rw [Int.zero_ediv] at this
              exact this
            omega
          have es : (sec : Int) = -((-(r : Int) * ((rateQ st i).d : Int)) / (rateQ st i).n) := by omega
          rw [es] at q
          have h12 := e2 _ _ h1
          exact s_ret (ev_neg (ev_iC (ev_iC (ev_neg (ev_var rfl)) (ev_fld (ev_var rfl) (T.fd_mover_below h12)) ((hrb.neg).cmul h4 (by omega) (by decide) (by omega))) (ev_fld (ev_var rfl) (T.fd_mover_above h12)) (wide_div (b := 460) (by omega) h3 (by decide) (by decide)))) fun H3 e3 => q H3 ((e.trans e2).trans e3)
      | star i =>
        obtain ⟨x, dx, na, pl, p', h1, h2, h3, h4, h5⟩ := hm
        have h4 := e _ _ h4
        have e1 : reaches st (n + 1) (.star i) r = reaches st n x.by_ (r * x.steps) := by
          show (match st.works.stars[i]? with | some x => reaches st n x.by_ (r * x.steps) | none => none) = _
          rw [h1]
        rw [e1] at hsec
        refine ⟨_, et_test (ev_op (ev_fld (ev_var rfl) (T.fd_mover_source h4)) ev_c rv_notN), fun hb H2 e2 => ?_, fun hb H2 e2 => ?_⟩
        · refine ⟨fun σ3 H3 => σ3 = [some (.ref p'), some (.int ((r * x.steps : Nat) : Int))] ∧ Ex H H3, fun σ3 H3 h => ⟨n, by omega, x.by_, p', r * x.steps, h.1, h.2, by omega, h5, ?_, hsec⟩, ?_⟩
          · have := (hrb.mul (steps_bt h3)).up (b := 3000 + 9 * (8 - n)) (by omega)
            rw [← Int.natCast_mul] at this
            exact this
          · refine q_asg (ev_is (ev_iC (ev_var rfl) (ev_fld (ev_var rfl) (T.fd_mover_steps (e2 _ _ h4))) (hrb.cmul (steps_bt h3) (by omega) (by decide) (by omega))) (congrArg V.int (Int.natCast_mul _ _).symm)) fun H3 e3 => ?_
            exact s_asg (ev_fld (ev_var rfl) (T.fd_mover_source (e3 _ _ (e2 _ _ h4)))) fun H4 e4 => ⟨rfl, ((e.trans e2).trans e3).trans e4⟩
        · have hb : (!decide (V.ref p' = V.non)) = false := hb
          have : decide (V.ref p' = V.non) = false := decide_eq_false fun z => by cases z
          rw [this] at hb
          exact absurd hb (by decide)
/-- how often a mover lets off -/
def offsOf (s : Mu07.State) (g : Goes) (a b : Nat) : Nat := (turns s 8 g b - turns s 8 g a).toNat
def pLettings (C : Addr) : List V → Hp → V → Prop := fun vs H z => ∃ (s : Mu07.State) (g : Goes) (p : Addr) (a b : Nat), vs = [.ref p, .int a, .int b] ∧ IsMov C H s 8 g p ∧ Bt 2000 (a : Int) ∧ Bt 2000 (b : Int) ∧ z = .int (offsOf s g a b)
theorem ok_lettings : FnOk P w K mg base CX0 18 T.lettings.f T.lettings.fd ["mover", "start", "end"] (spV (pLettings T.Mover.C)) := by
  refine T.lettings.F.ok sc_lettings (fun vs H Q E h => ?_) (fun cdv A outer s H vs Q E hr h => ?_)
  · obtain ⟨z, ⟨s, g, p, a, b, rfl, _⟩, _⟩ := h
    rfl
  · obtain ⟨z, ⟨st, g, p, a, b, rfl, hm, ha, hb, rfl⟩, q⟩ := h
    refine ⟨_, (pss_one (ps_ret (pe_callB (call_max2 rfl) (by rfl) T.b_max (by decide +kernel) (pa_cons pe_int (pa_cons (pe_op op_sub (pe_call (ok_whole_turns T) (hr.mono (by decide)) (by rfl) T.whole_turns.g T.whole_turns.F.kp T.whole_turns.b .nil pass0 (pa_cons (pv 0) (pa_cons (pv 2) pa_nil))) (pe_call (ok_whole_turns T) (hr.mono (by decide)) (by rfl) T.whole_turns.g T.whole_turns.F.kp T.whole_turns.b .nil pass0 (pa_cons (pv 0) (pa_cons (pv 1) pa_nil)))) pa_nil))))), ?_⟩
    refine s_ret (ev_max2 ev_c (ev_i (ev_call (ea_cons (ev_var rfl) (ea_cons (ev_var rfl) ea_nil)) (sv_of fun H3 e3 => ⟨st, g, p, b, rfl, hm.ex e3, hb, rfl⟩)) (ev_call (ea_cons (ev_var rfl) (ea_cons (ev_var rfl) ea_nil)) (sv_of fun H3 e3 => ⟨st, g, p, a, rfl, hm.ex e3, ha, rfl⟩)))) fun H3 e3 => ?_
    have e : (if turns st 8 g b - turns st 8 g a > 0 then turns st 8 g b - turns st 8 g a else 0) = ((offsOf st g a b : Nat) : Int) := by
      unfold offsOf
      split <;> omega
    rw [e]
    exact q H3 e3
theorem reach_some {s : Mu07.State} {k : Nat} {g : Goes} (r : Nat) (hd : Deep s k g) (h : 0 < (s.rates.getD (downTo s k g r).1 (whole 0)).n) : ∃ sec, reaches s k g r = some sec := by
  rw [reach_eq r hd, if_neg (by omega)]
  exact ⟨_, rfl⟩
end
/-! ### a mover that goes back lets nothing off -/
theorem tdiv_mono {a b c : Int} (hc : 0 < c) (h : a ≤ b) : Int.tdiv a c ≤ Int.tdiv b c := by
  by_cases ha : 0 ≤ a
  · rw [Int.tdiv_eq_ediv_of_nonneg ha, Int.tdiv_eq_ediv_of_nonneg (by omega)]
    exact Int.ediv_le_ediv hc h
  · have e1 : Int.tdiv a c = -((-a) / c) := by
      rw [← Int.tdiv_eq_ediv_of_nonneg (by omega : 0 ≤ -a), Int.neg_tdiv]
      omega
    by_cases hb : 0 ≤ b
    · rw [e1, Int.tdiv_eq_ediv_of_nonneg hb]
      have h1 : 0 ≤ (-a) / c := Int.ediv_nonneg (by omega) (by omega)
      have h2 : 0 ≤ b / c := Int.ediv_nonneg hb (by omega)
      omega
    · have e2 : Int.tdiv b c = -((-b) / c) := by
        rw [← Int.tdiv_eq_ediv_of_nonneg (by omega : 0 ≤ -b), Int.neg_tdiv]
        omega
      rw [e1, e2]
      have := Int.ediv_le_ediv hc (show -b ≤ -a by omega)
      omega
theorem turns_back {s : Mu07.State} {t t' : Nat} (ht : t ≤ t') : ∀ {k : Nat} {g : Goes} (r : Nat), Deep s k g → (s.rates.getD (downTo s k g r).1 (whole 0)).n ≤ 0 → turns s k g t' ≤ turns s k g t
  | 0, _, _, h, _ => h.elim
  | k + 1, .arbor i, r, h, hn => by
    have hn : (rateQ s i).n ≤ 0 := hn
    have p := (show Nm (rateQ s i) from h).pos
    rw [turns_eq t h, turns_eq t' h]
    refine tdiv_mono (show (0 : Int) < ((rateQ s i).d : Int) by omega) ?_
    show (rateQ s i).n * (t' : Int) ≤ (rateQ s i).n * (t : Int)
    exact Int.mul_le_mul_of_nonpos_left hn (by omega)
  | k + 1, .star i, r, h, hn => by
    have h0 := h
    obtain ⟨x, ex, hx, hd⟩ := h
    have e2 : downTo s (k + 1) (.star i) r = downTo s k x.by_ (r * x.steps) := by
      show (match s.works.stars[i]? with | some x => downTo s k x.by_ (r * x.steps) | none => (0, r)) = _
      rw [ex]
    rw [e2] at hn
    have ih := turns_back ht _ hd hn
    rw [turns_eq t h0, turns_eq t' h0, turnedZ_star ex, turnedZ_star ex]
    exact tdiv_mono (by show (0 : Int) < x.steps; omega) ih
theorem turns_fore {s : Mu07.State} {t : Nat} : ∀ {k : Nat} {g : Goes} (r : Nat), Deep s k g → 0 ≤ (s.rates.getD (downTo s k g r).1 (whole 0)).n → 0 ≤ turns s k g t
  | 0, _, _, h, _ => h.elim
  | k + 1, .arbor i, r, h, hn => by
    have hn : 0 ≤ (rateQ s i).n := hn
    rw [turns_eq t h]
    exact Int.tdiv_nonneg (Int.mul_nonneg hn (by omega)) (Int.natCast_nonneg _)
  | k + 1, .star i, r, h, hn => by
    have h0 := h
    obtain ⟨x, ex, hx, hd⟩ := h
    have e2 : downTo s (k + 1) (.star i) r = downTo s k x.by_ (r * x.steps) := by
      show (match s.works.stars[i]? with | some x => downTo s k x.by_ (r * x.steps) | none => (0, r)) = _
      rw [ex]
    rw [e2] at hn
    rw [turns_eq t h0, turnedZ_star ex]
    exact Int.tdiv_nonneg (turns_fore _ hd hn) (Int.natCast_nonneg _)
theorem down_same {s : Mu07.State} : ∀ {k : Nat} {g : Goes} (r r' : Nat), (downTo s k g r).1 = (downTo s k g r').1
  | 0, _, _, _ => rfl
  | k + 1, .arbor i, _, _ => rfl
  | k + 1, .star i, r, r' => by
    show (match s.works.stars[i]? with | some x => downTo s k x.by_ (r * x.steps) | none => (0, r)).1 = (match s.works.stars[i]? with | some x => downTo s k x.by_ (r' * x.steps) | none => (0, r')).1
    cases s.works.stars[i]? with
    | none => rfl
    | some x => exact down_same _ _
/-- the seconds in which a mover lets off -/
def secondsOf (s : Mu07.State) (g : Goes) (a b : Nat) : List Nat := (List.range (offsOf s g a b)).map fun (k : Nat) => (reaches s 8 g (turns s 8 g a + (k : Int) + 1).toNat).getD 0
section
variable {P : Program} {w : World} {K : PySem.W.Frag} {mg : Str → Option Value} {base : Heap} (T : Txt K mg)
theorem offs_fore {s : Mu07.State} {g : Goes} {a b : Nat} (hd : Deep s 8 g) (hab : a ≤ b) (h : 0 < offsOf s g a b) : 0 < (s.rates.getD (downTo s 8 g 0).1 (whole 0)).n ∧ 0 ≤ turns s 8 g a := by
  have p : 0 < (s.rates.getD (downTo s 8 g 0).1 (whole 0)).n := Classical.byContradiction fun z => by
    have := turns_back hab 0 hd (by omega)
    unfold offsOf at h
    omega
  exact ⟨p, turns_fore 0 hd (by omega)⟩
def natV (l : List Nat) : List V := l.map fun (n : Nat) => V.int (n : Int)
def pLetSecs (C : Addr) : List V → Hp → List V → Prop := fun vs H xs => ∃ (s : Mu07.State) (g : Goes) (p : Addr) (a b : Nat), vs = [.ref p, .int a, .int b] ∧ IsMov C H s 8 g p ∧ Bt 37 (a : Int) ∧ Bt 37 (b : Int) ∧ a ≤ b ∧ offsOf s g a b ≤ 400 ∧ xs = natV (secondsOf s g a b)
theorem ok_letting_seconds : FnOk P w K mg base CX0 19 T.letting_seconds.f T.letting_seconds.fd ["mover", "start", "end"] (spL (pLetSecs T.Mover.C)) := by
  refine T.letting_seconds.F.ok sc_letting_seconds (fun vs H Q E h => ?_) (fun cdv A outer s H vs Q E hr h => ?_)
  · obtain ⟨z, ⟨s, g, p, a, b, rfl, _⟩, _⟩ := h
    rfl
  · obtain ⟨z, ⟨st, g, p, a, b, rfl, hm, ha, hb, hab, h4, rfl⟩, q⟩ := h
    refine ⟨_, (pss_cons (ps_set (i := 3) sc_letting_seconds.nd rfl (Or.inl rfl) (pe_call (ok_whole_turns T) (hr.mono (by decide)) (by rfl) T.whole_turns.g T.whole_turns.F.kp T.whole_turns.b .nil pass0 (pa_cons (pv 0) (pa_cons (pv 1) pa_nil))))
    (pss_cons (ps_set (i := 4) sc_letting_seconds.nd rfl (Or.inl rfl) (pe_lst pa_nil))
    (pss_cons (ps_for PassesOwn.never rfl (pi_range1 (by rfl) T.b_range (pa_cons (pe_call (ok_lettings T) (hr.mono (by decide)) (by rfl) T.lettings.g T.lettings.F.kp T.lettings.b .nil pass0 (pa_cons (pv 0) (pa_cons (pv 1) (pa_cons (pv 2) pa_nil)))) pa_nil)) (pg_name (i := 5) sc_letting_seconds.nd rfl (Or.inl rfl))
    (pss_one (ps_expr (pe_bm PySem.F.plainAttrs_list PySem.F.slot_list_append PySem.F.type_list_append mt_append (pv 4) (pa_cons (pe_call (ok_first_second T) (hr.mono (by decide)) (by rfl) T.first_second.g T.first_second.F.kp T.first_second.b .nil pass0 (pa_cons (pv 0) (pa_cons (pe_op op_add (pe_op op_add (pv 3) (pv 5)) pe_int) pa_nil))) pa_nil)))))
    (pss_one (ps_ret (pv 4)))))), ?_⟩
    have ha' := ha.up (b := 2000) (by decide)
    have hb' := hb.up (b := 2000) (by decide)
    have wb := (turned_bd ha' hm).2.2
    refine q_asg (ev_call (ea_cons (ev_var rfl) (ea_cons (ev_var rfl) ea_nil)) (sv_of fun H3 e3 => ⟨st, g, p, a, rfl, hm.ex e3, ha', rfl⟩)) fun H1 e1 => ?_
    refine q_asgL (el_lst ea_nil (Nat.zero_le _)) fun l H2 nl e2 hl => ?_
    have nl0 : H l = none := fresh_back e1 nl
    have e02 := e1.trans e2
    refine q_forR1 (n := ((offsOf st g a b : Nat) : Int)) (ea_cons (ev_call (ea_cons (ev_var rfl) (ea_cons (ev_var rfl) (ea_cons (ev_var rfl) ea_nil))) (sv_of fun H3 e3 => ⟨st, g, p, a, b, rfl, hm.ex (e02.trans e3), ha', hb', rfl⟩)) ea_nil) ⟨by omega, by omega⟩
      (fun i σ' H' => ∃ o, σ' = [some (.ref p), some (.int a), some (.int b), some (.int (turns st 8 g a)), some (.ref l), o] ∧ Ex H H' ∧ H' l = some (.lst (natV ((secondsOf st g a b).take i)))) (fun H3 e3 => ⟨none, rfl, e02.trans e3, e3 _ _ hl⟩) (fun i σ' H' hi hP => ?_) (fun σ' H' hP => ?_)
    · obtain ⟨o, rfl, e, hl'⟩ := hP
      have hi' : i < offsOf st g a b := by omega
      obtain ⟨fp, f0⟩ := offs_fore hm.deep hab (by omega)
      have er : turns st 8 g a + (i : Int) + 1 = (((turns st 8 g a + (i : Int) + 1).toNat : Nat) : Int) := by omega
      obtain ⟨sec, hsec⟩ := reach_some (turns st 8 g a + (i : Int) + 1).toNat hm.deep (by rw [down_same _ 0]; exact fp)
      have sg : (secondsOf st g a b)[i]? = some sec := by
        unfold secondsOf
        rw [List.getElem?_map, List.getElem?_range hi', Option.map_some, hsec]
        rfl
      have rb : Bt 3000 (((turns st 8 g a + (i : Int) + 1).toNat : Nat) : Int) := by
        rw [← er]
        have i1 : Bt 2460 (i : Int) := by
          have : Bt 37 (i : Int) := small_bt (by omega)
          exact this.up (by decide)
        have o1 : Bt 2461 (1 : Int) := by
          have : Bt 37 (1 : Int) := small_bt (by decide)
          exact this.up (by decide)
        exact ((wb.add i1).add o1).up (by decide)
      refine s_app (K := K) hl' (ev_var rfl) (ev_call (ea_cons (ev_var rfl) (ea_cons (ev_is (ev_i (ev_i (ev_var rfl) (ev_var rfl)) ev_c) (congrArg V.int er)) ea_nil)) (sv_of fun H3 e3 => ⟨st, g, p, _, sec, rfl, hm.ex (e.trans e3), rb, hsec, rfl⟩)) ?_ fun H3 e3 => ⟨some (.int i), rfl, Ex.mut (e.trans e3) nl0, ?_⟩
      · unfold natV
        rw [List.length_map, List.length_take]
        omega
      · rw [upd_same, take_more sg]
        unfold natV
        rw [List.map_append]
        rfl
    · obtain ⟨o, rfl, e, hl'⟩ := hP
      have et : (secondsOf st g a b).take ((offsOf st g a b : Nat) : Int).toNat = secondsOf st g a b := List.take_of_length_le (by
        unfold secondsOf
        rw [List.length_map, List.length_range]
        omega)
      rw [et] at hl'
      exact s_ret (ev_var rfl) fun H3 e3 => q l H3 nl0 (e.trans e3) (e3 _ _ hl')
/-- next_whole: the pairs start, rate; now -/
def pNextWhole : List V → Hp → List V → Prop := fun vs H xs => ∃ (p q : Addr) (s0 s1 r0 r1 now : Int), vs = [.ref p, .ref q, .int now] ∧ H p = some (.tup [.int s0, .int s1]) ∧ H q = some (.tup [.int r0, .int r1]) ∧ 0 < s1 ∧ 0 < r1 ∧ r0 ≠ 0 ∧ Bt 200 s0 ∧ Bt 200 s1 ∧ Bt 2000 r0 ∧ Bt 2000 r1 ∧ Bt 40 now ∧
  xs = fracV (frac (nextZ s0 s1 r0 r1 now).1 (nextZ s0 s1 r0 r1 now).2)
theorem bt_ediv {k : Nat} {a b : Int} (h : Bt k a) : Bt k (a / b) := Nat.lt_of_le_of_lt (Int.natAbs_ediv_le_natAbs a b) h
theorem ok_next_whole : FnOk P w K mg base CX0 3 T.next_whole.f T.next_whole.fd ["start", "rate", "now"] (spU pNextWhole) := by
  refine T.next_whole.F.ok sc_next_whole (fun vs H Q E h => ?_) (fun cdv A outer s H vs Q E hr h => ?_)
  · obtain ⟨z, ⟨p, q, s0, s1, r0, r1, now, rfl, _⟩, _⟩ := h
    rfl
  · obtain ⟨z, ⟨p, q, s0, s1, r0, r1, now, rfl, hp, hq, s1p, r1p, r0n, b0, b1, c0, c1, bn, rfl⟩, k⟩ := h
    refine ⟨_, (pss_cons (ps_set (i := 3) sc_next_whole.nd rfl (Or.inl rfl) (pe_op op_add (pe_op op_mulW (pe_ix ix_tup (pv 0) pe_int (fun _ _ => rfl)) (pe_ix ix_tup (pv 1) pe_int (fun _ _ => rfl))) (pe_op op_mulW (pe_op op_mulW (pe_ix ix_tup (pv 1) pe_int (fun _ _ => rfl)) (pv 2)) (pe_ix ix_tup (pv 0) pe_int (fun _ _ => rfl)))))
    (pss_cons (ps_set (i := 4) sc_next_whole.nd rfl (Or.inl rfl) (pe_op op_mulW (pe_ix ix_tup (pv 0) pe_int (fun _ _ => rfl)) (pe_ix ix_tup (pv 1) pe_int (fun _ _ => rfl))))
    (pss_cut (ps_if (pt_cmpR op_gt (pe_ix ix_tup (pv 1) pe_int (fun _ _ => rfl)) pe_int (nomark _))
    (pss_one (ps_set (i := 5) sc_next_whole.nd rfl (Or.inl rfl) (pe_op op_add (pe_op op_fdivW (pv 3) (pv 4)) pe_int))) (pss_one (ps_set (i := 5) sc_next_whole.nd rfl (Or.inl rfl) (pe_op op_sub (pe_un un_neg (pe_op op_fdivW (pe_un un_neg (pv 3)) (pv 4))) pe_int))))
    (pss_one (ps_ret (pe_call (ok_lowest T) (hr.mono (by decide)) (by rfl) T.lowest.g T.lowest.F.kp T.lowest.b .nil pass0 (pa_cons (pe_op op_mulW (pe_op op_sub (pe_op op_mulW (pv 5) (pe_ix ix_tup (pv 0) pe_int (fun _ _ => rfl))) (pe_ix ix_tup (pv 0) pe_int (fun _ _ => rfl))) (pe_ix ix_tup (pv 1) pe_int (fun _ _ => rfl))) (pa_cons (pe_op op_mulW (pe_ix ix_tup (pv 0) pe_int (fun _ _ => rfl)) (pe_ix ix_tup (pv 1) pe_int (fun _ _ => rfl))) pa_nil)))))))), ?_⟩
    have P0 : ∀ H', Ex H H' → SqT K H' p [.int s0, .int s1] := fun H' e => SqT.of (e _ _ hp)
    have Q0 : ∀ H', Ex H H' → SqT K H' q [.int r0, .int r1] := fun H' e => SqT.of (e _ _ hq)
    have m1 := b0.mul c1
    have m2 := (c0.mul bn).mul b1
    have mA : Bt 2241 (s0 * r1 + r0 * now * s1) := ((m1.up (b := 2240) (by decide)).add (m2.up (b := 2240) (by decide))).up (by decide)
    have mB := b1.mul c1
    have posB : 0 < s1 * r1 := Int.mul_pos s1p r1p
    refine q_asg (ev_i (ev_iC (ev_ixT (j := 0) (ev_var rfl) ev_c (P0 _ (Ex.refl _)) rfl rfl) (ev_ixT (j := 1) (ev_var rfl) ev_c (Q0 _ (Ex.refl _)) rfl rfl) (b0.cmul c1 (by decide) (by decide) (by decide))) (ev_iC (ev_iC (ev_ixT (j := 0) (ev_var rfl) ev_c (Q0 _ (Ex.refl _)) rfl rfl) (ev_var rfl) (c0.cmul bn (by decide) (by decide) (by decide))) (ev_ixT (j := 1) (ev_var rfl) ev_c (P0 _ (Ex.refl _)) rfl rfl) ((c0.mul bn).cmul b1 (by decide) (by decide) (by decide)))) fun H1 e1 => ?_
    refine q_asg (ev_iC (ev_ixT (j := 1) (ev_var rfl) ev_c (P0 _ e1) rfl rfl) (ev_ixT (j := 1) (ev_var rfl) ev_c (Q0 _ e1) rfl rfl) (b1.cmul c1 (by decide) (by decide) (by decide))) fun H2 e2 => ?_
    have e02 := e1.trans e2
    have cd : ∀ i, CDivW i (s1 * r1) := fun i => wide_div (b := 2200) posB mB (by decide) (by decide)
    have one : ∀ k, 37 ≤ k → Bt k (1 : Int) := fun k hk => (small_bt (by decide) : Bt 37 (1 : Int)).up hk
    generalize hW : (if 0 < r0 then (s0 * r1 + r0 * now * s1) / (s1 * r1) + 1 else -((-(s0 * r1 + r0 * now * s1)) / (s1 * r1)) - 1) = W
    refine q_cut (M := fun σ' H' => σ' = [some (.ref p), some (.ref q), some (.int now), some (.int (s0 * r1 + r0 * now * s1)), some (.int (s1 * r1)), some (.int W)] ∧ Ex H H') ?_ fun σ' H' hM => ?_
    · refine s_if (et_test (ev_i (ev_ixT (j := 0) (ev_var rfl) ev_c (Q0 _ e02) rfl rfl) ev_c)) (fun hb H3 e3 => ?_) (fun hb H3 e3 => ?_)
      · have hb := of_decide_eq_true hb
        rw [if_pos hb] at hW
        refine s_asg (ev_i (ev_iC (ev_var rfl) (ev_var rfl) (cd _)) ev_c) fun H4 e4 => ⟨?_, (e02.trans e3).trans e4⟩
        rw [← hW]
        rfl
      · have hb := of_decide_eq_false hb
        rw [if_neg hb] at hW
        refine s_asg (ev_i (ev_neg (ev_iC (ev_neg (ev_var rfl)) (ev_var rfl) (cd _))) ev_c) fun H4 e4 => ⟨?_, (e02.trans e3).trans e4⟩
        rw [← hW]
        rfl
    · obtain ⟨rfl, e⟩ := hM
      have bW : Bt 2242 W := by
        rw [← hW]
        split
        · exact (bt_ediv mA).add (one _ (by decide))
        · exact ((bt_ediv mA.neg).neg).sub (one _ (by decide))
      have x1 := bW.mul b1
      have x2 := x1.sub (b0.up (b := 2242 + 200) (by decide))
      have y0 : s1 * r0 ≠ 0 := Int.mul_ne_zero (by omega) r0n
      have nz : nextZ s0 s1 r0 r1 now = ((W * s1 - s0) * r1, s1 * r0) := by
        unfold nextZ
        dsimp only
        rw [hW]
      rw [nz] at k
      refine s_retU (eu_call (ea_cons (ev_iC (ev_i (ev_iC (ev_var rfl) (ev_ixT (j := 1) (ev_var rfl) ev_c (P0 _ e) rfl rfl) (bW.cmul b1 (by decide) (by decide) (by decide))) (ev_ixT (j := 0) (ev_var rfl) ev_c (P0 _ e) rfl rfl)) (ev_ixT (j := 1) (ev_var rfl) ev_c (Q0 _ e) rfl rfl) (x2.cmul c1 (by decide) (by decide) (by decide)))
        (ea_cons (ev_iC (ev_ixT (j := 1) (ev_var rfl) ev_c (P0 _ e) rfl rfl) (ev_ixT (j := 0) (ev_var rfl) ev_c (Q0 _ e) rfl rfl) (b1.cmul c0 (by decide) (by decide) (by decide))) ea_nil)) (su_of fun H4 e4 => ⟨_, _, rfl, y0, (b1.mul c0).sm (by decide), rfl⟩)) fun t H4 ht e4 h4 => ?_
      exact k t H4 (fresh_back e ht) (e.trans e4) h4
end
end Cw

/-! How the works lie in the heap: all of them. -/
namespace Cw
open PySem PySem.Spec PyProof.Rows L2 Evl
open Mu07 (State Goes Works Star Q frac whole Bytes)
/-- a name's bytes -/
def byV (b : List Nat) : List V := b.map fun (n : Nat) => V.int (n : Int)
def byZ (b : List Nat) : List Int := b.map fun (n : Nat) => (n : Int)
theorem byV_z (b : List Nat) : byV b = (byZ b).map V.int := by
  unfold byV byZ
  rw [List.map_map]
  rfl
theorem byZ_inj {a b : List Nat} (h : byZ a = byZ b) : a = b := by
  have h2 := congrArg (List.map Int.toNat) h
  have e : ∀ l : List Nat, (byZ l).map Int.toNat = l := fun l => by
    unfold byZ
    rw [List.map_map]
    exact List.map_id' l
  rw [e, e] at h2
  exact h2
theorem byZ_dec (a b : List Nat) : decide (byZ a = byZ b) = (a == b) := by
  by_cases h : a = b
  · subst h
    simp
  · rw [decide_eq_false fun z => h (byZ_inj z)]
    have : (a == b) = false := by simpa using h
    rw [this]
def tagI : List Str := ["i"]
def tagL : List Str := ["l"]
/-- unlike objects have unlike tags -/
def tagOf : HO → List Str
  | .ins _ _ fs => fs.map (·.1)
  | .lst (.int _ :: _) => tagI
  | .lst _ => tagL
  | _ => []
theorem tag_ne {H : Hp} {a b : Addr} {o u : HO} (h : H a = some o) (h' : H b = some u) (d : tagOf o ≠ tagOf u) : a ≠ b := fun e => by
  subst e
  rw [h] at h'
  exact d (congrArg tagOf (Option.some.inj h'))
theorem tag_by {nm : List Nat} (h : nm ≠ []) : tagOf (.lst (byV nm)) = tagI := by
  cases nm with
  | nil => exact absurd rfl h
  | cons x r => rfl
theorem tag_ref (l : List Addr) : tagOf (.lst (refV l)) = tagL := by
  cases l <;> rfl
/-- the name of a part; it lies apart from td -/
def NameAt (td : Addr) (H : Hp) (na : Addr) (nm : Bytes) : Prop := (nm ≠ [] ∧ na ≠ td) ∧ H na = some (.lst (byV nm))
theorem NameAt.ex {td : Addr} {H H' : Hp} {na : Addr} {nm : Bytes} (h : NameAt td H na nm) (e : Ex H H') : NameAt td H' na nm := ⟨h.1, e _ _ h.2⟩
theorem NameAt.kp {td : Addr} {H H' : Hp} {na b0 : Addr} {nm : Bytes} {o0 : HO} (h : NameAt td H na nm) (e : ExB b0 H H') (h0 : H b0 = some o0) (d : tagOf o0 ≠ tagI) : NameAt td H' na nm :=
  ⟨h.1, e _ _ (tag_ne h.2 h0 (by rw [tag_by h.1.1]; exact fun z => d z.symm)) h.2⟩
theorem NameAt.off {td : Addr} {H H' : Hp} {na : Addr} {nm : Bytes} (h : NameAt td H na nm) (e : ExB td H H') : NameAt td H' na nm := ⟨h.1, e _ _ h.1.2 h.2⟩
structure Lay where
  a : Addr
  dx : Addr
  la : Addr
  lw : Addr
  lm : Addr
  ls : Addr
  lh : Addr
  lk : Addr
  lc : Addr
  ar : List Addr
  wh : List Addr
  me : List Addr
  st : List Addr
  ha : List Addr
  sk : List Addr
  ca : List Addr
def movOf (ar st : List Addr) : Goes → Option Addr
  | .arbor i => ar[i]?
  | .star i => st[i]?
section
variable {K : PySem.W.Frag} {mg : Str → Option Value} (T : Txt K mg)
def Arbs (H : Hp) (ar : List Addr) (arbors : List Bytes) (rates : List Q) : Prop := ∀ (i : Nat) (p : Addr), ar[i]? = some p → ∃ (nm : Bytes) (dx na : Addr), arbors[i]? = some nm ∧ H p = some (.ins T.Mover.C dx (moverF na (i : Int) .non 1 (rates.getD i (whole 0)).n ((rates.getD i (whole 0)).d : Int))) ∧ NameAt T.td H na nm
def Whls (H : Hp) (wh ar : List Addr) (ws : List Mu07.Wheel) : Prop := ∀ (i : Nat) (p : Addr), wh[i]? = some p → ∃ (x : Mu07.Wheel) (dx na q : Addr), ws[i]? = some x ∧ H p = some (.ins T.Wheel.C dx (wheelF na q (x.teeth : Int))) ∧ ar[x.arbor]? = some q ∧ NameAt T.td H na x.name
def carV (ar : List Addr) (on : Option Nat) : V := match on with
  | some c => .ref (ar.getD c 0)
  | none => .non
def Mshs (H : Hp) (me wh ar : List Addr) (ms : List Mu07.Mesh) : Prop := ∀ (i : Nat) (p : Addr), me[i]? = some p → ∃ (m : Mu07.Mesh) (dx f g : Addr), ms[i]? = some m ∧ H p = some (.ins T.Mesh.C dx (meshF f g m.inside (carV ar m.on))) ∧ wh[m.v]? = some f ∧ wh[m.w]? = some g
def Stars (H : Hp) (st ar : List Addr) (ss : List Star) : Prop := ∀ (i : Nat) (p : Addr), st[i]? = some p → ∃ (x : Star) (dx na q : Addr), ss[i]? = some x ∧ H p = some (.ins T.Mover.C dx (moverF na (i : Int) (.ref q) (x.steps : Int) 0 1)) ∧ movOf ar st x.by_ = some q ∧ NameAt T.td H na x.name
def Hands (H : Hp) (ha ar st : List Addr) (hs : List Mu07.Hand) (set : List Int) : Prop := ∀ (i : Nat) (p : Addr), ha[i]? = some p → ∃ (x : Mu07.Hand) (dx na q : Addr), hs[i]? = some x ∧ H p = some (.ins T.Hand.C dx (handF na q (x.marks : Int) ((x.first : Int) + set.getD i 0))) ∧ movOf ar st x.on = some q ∧ NameAt T.td H na x.name
def Strks (H : Hp) (sk ha ar st : List Addr) (ks : List Mu07.Striker) (next : List Nat) : Prop := ∀ (i : Nat) (p : Addr), sk[i]? = some p → ∃ (x : Mu07.Striker) (dx na q ns : Addr) (hd : V), ks[i]? = some x ∧ H p = some (.ins T.Striker.C dx (strikerF na q ns hd (next.getD i 0 : Nat))) ∧ movOf ar st x.by_ = some q ∧ NameAt T.td H na x.name ∧
  (x.hand = none → hd = .non ∧ NameAt T.td H ns x.numbers) ∧ (∀ h, x.hand = some h → ∃ hp : Addr, hd = .ref hp ∧ ha[h]? = some hp)
def Cals (H : Hp) (ca ar st : List Addr) (cs : List Mu07.Calendar) (days : List Int) : Prop := ∀ (i : Nat) (p : Addr), ca[i]? = some p → ∃ (x : Mu07.Calendar) (dx na q : Addr), cs[i]? = some x ∧ H p = some (.ins T.Calendar.C dx (calF na q x.first.y (x.first.m : Int) (x.first.d : Int) (days.getD i 0))) ∧ movOf ar st x.by_ = some q ∧ NameAt T.td H na x.name
def drvV (ar : List Addr) (d : Option (Nat × Nat)) : V := match d with
  | some p => .ref (ar.getD p.1 0)
  | none => .non
def secZ (d : Option (Nat × Nat)) : Int := match d with
  | some p => (p.2 : Int)
  | none => 0
def worksL (L : Lay) (s : Mu07.State) : List (Str × V) := worksF L.la L.lw L.lm L.ls L.lh L.lk L.lc (drvV L.ar s.works.drive) (secZ s.works.drive) (s.now : Int)
/-- the seven lists -/
structure Lists (H : Hp) (L : Lay) : Prop where
  la : H L.la = some (.lst (refV L.ar))
  lw : H L.lw = some (.lst (refV L.wh))
  lm : H L.lm = some (.lst (refV L.me))
  ls : H L.ls = some (.lst (refV L.st))
  lh : H L.lh = some (.lst (refV L.ha))
  lk : H L.lk = some (.lst (refV L.sk))
  lc : H L.lc = some (.lst (refV L.ca))
  nd : [L.la, L.lw, L.lm, L.ls, L.lh, L.lk, L.lc].Nodup
structure Lens (L : Lay) (W : Works) : Prop where
  ar : L.ar.length = W.arbors.length
  wh : L.wh.length = W.wheels.length
  me : L.me.length = W.meshes.length
  st : L.st.length = W.stars.length
  ha : L.ha.length = W.hands.length
  sk : L.sk.length = W.strikers.length
  ca : L.ca.length = W.calendars.length
  nha : L.ha.Nodup
  nsk : L.sk.Nodup
  nca : L.ca.Nodup
structure WAt (H : Hp) (L : Lay) (s : Mu07.State) : Prop where
  w : H L.a = some (.ins T.Works.C L.dx (worksL L s))
  lists : Lists H L
  lens : Lens L s.works
  arbs : Arbs T H L.ar s.works.arbors s.rates
  whls : Whls T H L.wh L.ar s.works.wheels
  mshs : Mshs T H L.me L.wh L.ar s.works.meshes
  stars : Stars T H L.st L.ar s.works.stars
  hands : Hands T H L.ha L.ar L.st s.works.hands s.set
  strks : Strks T H L.sk L.ha L.ar L.st s.works.strikers s.next
  cals : Cals T H L.ca L.ar L.st s.works.calendars s.days
/-! ### what stays -/
variable {T}
theorem Arbs.ex {H H' : Hp} {ar : List Addr} {l : List Bytes} {r : List Q} (h : Arbs T H ar l r) (e : Ex H H') : Arbs T H' ar l r := fun i p hp => by
  obtain ⟨nm, dx, na, h1, h2, h3⟩ := h i p hp
  exact ⟨nm, dx, na, h1, e _ _ h2, h3.ex e⟩
theorem Whls.ex {H H' : Hp} {a b : List Addr} {l : List Mu07.Wheel} (h : Whls T H a b l) (e : Ex H H') : Whls T H' a b l := fun i p hp => by
  obtain ⟨x, dx, na, q, h1, h2, h3, h4⟩ := h i p hp
  exact ⟨x, dx, na, q, h1, e _ _ h2, h3, h4.ex e⟩
theorem Mshs.ex {H H' : Hp} {a b c : List Addr} {l : List Mu07.Mesh} (h : Mshs T H a b c l) (e : Ex H H') : Mshs T H' a b c l := fun i p hp => by
  obtain ⟨x, dx, na, q, h1, h2, h3⟩ := h i p hp
  exact ⟨x, dx, na, q, h1, e _ _ h2, h3⟩
theorem Stars.ex {H H' : Hp} {a b : List Addr} {l : List Star} (h : Stars T H a b l) (e : Ex H H') : Stars T H' a b l := fun i p hp => by
  obtain ⟨x, dx, na, q, h1, h2, h3, h4⟩ := h i p hp
  exact ⟨x, dx, na, q, h1, e _ _ h2, h3, h4.ex e⟩
theorem Hands.ex {H H' : Hp} {a b c : List Addr} {l : List Mu07.Hand} {d : List Int} (h : Hands T H a b c l d) (e : Ex H H') : Hands T H' a b c l d := fun i p hp => by
  obtain ⟨x, dx, na, q, h1, h2, h3, h4⟩ := h i p hp
  exact ⟨x, dx, na, q, h1, e _ _ h2, h3, h4.ex e⟩
theorem Strks.ex {H H' : Hp} {a b c d : List Addr} {l : List Mu07.Striker} {n : List Nat} (h : Strks T H a b c d l n) (e : Ex H H') : Strks T H' a b c d l n := fun i p hp => by
  obtain ⟨x, dx, na, q, ns, hd, h1, h2, h3, h4, h5, h6⟩ := h i p hp
  exact ⟨x, dx, na, q, ns, hd, h1, e _ _ h2, h3, h4.ex e, fun z => ⟨(h5 z).1, (h5 z).2.ex e⟩, h6⟩
theorem Cals.ex {H H' : Hp} {a b c : List Addr} {l : List Mu07.Calendar} {d : List Int} (h : Cals T H a b c l d) (e : Ex H H') : Cals T H' a b c l d := fun i p hp => by
  obtain ⟨x, dx, na, q, h1, h2, h3, h4⟩ := h i p hp
  exact ⟨x, dx, na, q, h1, e _ _ h2, h3, h4.ex e⟩
theorem Lists.ex {H H' : Hp} {L : Lay} (h : Lists H L) (e : Ex H H') : Lists H' L := ⟨e _ _ h.la, e _ _ h.lw, e _ _ h.lm, e _ _ h.ls, e _ _ h.lh, e _ _ h.lk, e _ _ h.lc, h.nd⟩
theorem WAt.ex {H H' : Hp} {L : Lay} {s : Mu07.State} (h : WAt T H L s) (e : Ex H H') : WAt T H' L s :=
  ⟨e _ _ h.w, h.lists.ex e, h.lens, h.arbs.ex e, h.whls.ex e, h.mshs.ex e, h.stars.ex e, h.hands.ex e, h.strks.ex e, h.cals.ex e⟩
/-- one object b0 is another behind: those of another tag stand -/
theorem Arbs.kp {H H' : Hp} {b0 : Addr} {o0 : HO} {ar : List Addr} {l : List Bytes} {r : List Q} (h : Arbs T H ar l r) (e : ExB b0 H H') (h0 : H b0 = some o0) (d : tagOf o0 ≠ tagI) (d2 : tagOf o0 ≠ moverK) : Arbs T H' ar l r := fun i p hp => by
  obtain ⟨nm, dx, na, h1, h2, h3⟩ := h i p hp
  exact ⟨nm, dx, na, h1, e _ _ (tag_ne h2 h0 fun z => d2 (z.symm.trans moverF_keys)) h2, h3.kp e h0 d⟩
theorem Whls.kp {H H' : Hp} {b0 : Addr} {o0 : HO} {a b : List Addr} {l : List Mu07.Wheel} (h : Whls T H a b l) (e : ExB b0 H H') (h0 : H b0 = some o0) (d : tagOf o0 ≠ tagI) (d2 : tagOf o0 ≠ wheelK) : Whls T H' a b l := fun i p hp => by
  obtain ⟨x, dx, na, q, h1, h2, h3, h4⟩ := h i p hp
  exact ⟨x, dx, na, q, h1, e _ _ (tag_ne h2 h0 fun z => d2 (z.symm.trans wheelF_keys)) h2, h3, h4.kp e h0 d⟩
theorem Mshs.kp {H H' : Hp} {b0 : Addr} {o0 : HO} {a b c : List Addr} {l : List Mu07.Mesh} (h : Mshs T H a b c l) (e : ExB b0 H H') (h0 : H b0 = some o0) (d2 : tagOf o0 ≠ meshK) : Mshs T H' a b c l := fun i p hp => by
  obtain ⟨x, dx, na, q, h1, h2, h3⟩ := h i p hp
  exact ⟨x, dx, na, q, h1, e _ _ (tag_ne h2 h0 fun z => d2 (z.symm.trans meshF_keys)) h2, h3⟩
theorem Stars.kp {H H' : Hp} {b0 : Addr} {o0 : HO} {a b : List Addr} {l : List Star} (h : Stars T H a b l) (e : ExB b0 H H') (h0 : H b0 = some o0) (d : tagOf o0 ≠ tagI) (d2 : tagOf o0 ≠ moverK) : Stars T H' a b l := fun i p hp => by
  obtain ⟨x, dx, na, q, h1, h2, h3, h4⟩ := h i p hp
  exact ⟨x, dx, na, q, h1, e _ _ (tag_ne h2 h0 fun z => d2 (z.symm.trans moverF_keys)) h2, h3, h4.kp e h0 d⟩
theorem Hands.kp {H H' : Hp} {b0 : Addr} {o0 : HO} {a b c : List Addr} {l : List Mu07.Hand} {ds : List Int} (h : Hands T H a b c l ds) (e : ExB b0 H H') (h0 : H b0 = some o0) (d : tagOf o0 ≠ tagI) (d2 : tagOf o0 ≠ handK) : Hands T H' a b c l ds := fun i p hp => by
  obtain ⟨x, dx, na, q, h1, h2, h3, h4⟩ := h i p hp
  exact ⟨x, dx, na, q, h1, e _ _ (tag_ne h2 h0 fun z => d2 (z.symm.trans handF_keys)) h2, h3, h4.kp e h0 d⟩
theorem Strks.kp {H H' : Hp} {b0 : Addr} {o0 : HO} {a b c f : List Addr} {l : List Mu07.Striker} {n : List Nat} (h : Strks T H a b c f l n) (e : ExB b0 H H') (h0 : H b0 = some o0) (d : tagOf o0 ≠ tagI) (d2 : tagOf o0 ≠ strikerK) : Strks T H' a b c f l n := fun i p hp => by
  obtain ⟨x, dx, na, q, ns, hd, h1, h2, h3, h4, h5, h6⟩ := h i p hp
  exact ⟨x, dx, na, q, ns, hd, h1, e _ _ (tag_ne h2 h0 fun z => d2 (z.symm.trans strikerF_keys)) h2, h3, h4.kp e h0 d, fun z => ⟨(h5 z).1, (h5 z).2.kp e h0 d⟩, h6⟩
theorem Cals.kp {H H' : Hp} {b0 : Addr} {o0 : HO} {a b c : List Addr} {l : List Mu07.Calendar} {ds : List Int} (h : Cals T H a b c l ds) (e : ExB b0 H H') (h0 : H b0 = some o0) (d : tagOf o0 ≠ tagI) (d2 : tagOf o0 ≠ calK) : Cals T H' a b c l ds := fun i p hp => by
  obtain ⟨x, dx, na, q, h1, h2, h3, h4⟩ := h i p hp
  exact ⟨x, dx, na, q, h1, e _ _ (tag_ne h2 h0 fun z => d2 (z.symm.trans calF_keys)) h2, h3, h4.kp e h0 d⟩
theorem Lists.kp {H H' : Hp} {b0 : Addr} {o0 : HO} {L : Lay} (h : Lists H L) (e : ExB b0 H H') (h0 : H b0 = some o0) (d : tagOf o0 ≠ tagL) : Lists H' L := by
  have k : ∀ {p : Addr} {l : List Addr}, H p = some (.lst (refV l)) → H' p = some (.lst (refV l)) := fun {p l} q => e _ _ (tag_ne q h0 fun z => d (z.symm.trans (tag_ref l))) q
  exact ⟨k h.la, k h.lw, k h.lm, k h.ls, k h.lh, k h.lk, k h.lc, h.nd⟩
/-! ### movers and hands of works that stand -/
def RateOk (q : Q) : Prop := Nm q ∧ Bt 460 q.n ∧ Bt 460 (q.d : Int)
/-- what's true of the numbers: the works are well-formed, the rates are small -/
structure Good (s : Mu07.State) : Prop where
  wf : Wf s.works
  rates : ∀ i, RateOk (s.rates.getD i (whole 0))
  lset : s.set.length = s.works.hands.length
  lnext : s.next.length = s.works.strikers.length
  ldays : s.days.length = s.works.calendars.length
  next : ∀ i x, s.works.strikers[i]? = some x → x.hand = none → s.next.getD i 0 < x.numbers.length
  now : s.now ≤ 100000000000
theorem mov_star {H : Hp} {L : Lay} {s : Mu07.State} (h : WAt T H L s) (g : Good s) : ∀ (n i : Nat) (p : Addr), i < n → L.st[i]? = some p → IsMov T.Mover.C H s (i + 2) (.star i) p
  | 0, i, p, hi, _ => by omega
  | n + 1, i, p, hi, hp => by
    obtain ⟨x, dx, na, q, h1, h2, h3, h4⟩ := h.stars i p hp
    obtain ⟨w1, w2, w3⟩ := g.wf.star i x h1
    refine ⟨x, dx, na, (i : Int), q, h1, w2, w3, h2, ?_⟩
    cases hb : x.by_ with
    | arbor j =>
      rw [hb] at h3
      obtain ⟨nm, dx, na, k1, k2, k3⟩ := h.arbs j q h3
      obtain ⟨r1, r2, r3⟩ := g.rates j
      exact ⟨dx, na, (j : Int), k2, r1, r2, r3⟩
    | star j =>
      rw [hb] at h3 w1
      have := mov_star h g n j q (by omega) h3
      exact this.up (by omega)
theorem WAt.mov {H : Hp} {L : Lay} {s : Mu07.State} (h : WAt T H L s) (g : Good s) {go : Goes} {p : Addr} (hp : movOf L.ar L.st go = some p) : IsMov T.Mover.C H s 8 go p := by
  cases go with
  | arbor j =>
    obtain ⟨nm, dx, na, k1, k2, k3⟩ := h.arbs j p hp
    obtain ⟨r1, r2, r3⟩ := g.rates j
    exact ⟨dx, na, (j : Int), k2, r1, r2, r3⟩
  | star j =>
    have hj : j < L.st.length := (List.getElem?_eq_some_iff.mp hp).1
    have := h.lens.st
    have := g.wf.ns
    exact (mov_star h g (j + 1) j p (by omega) hp).up (by omega)
/-- hands may be set on so far -/
def SetOk (s : Mu07.State) : Prop := ∀ i, (s.set.getD i 0).natAbs ≤ 1000000000000
theorem WAt.hand {H : Hp} {L : Lay} {s : Mu07.State} (h : WAt T H L s) (g : Good s) (so : SetOk s) {i : Nat} {p : Addr} (hp : L.ha[i]? = some p) : IsHand T.Mover.C T.Hand.C H s i p := by
  obtain ⟨x, dx, na, q, h1, h2, h3, h4⟩ := h.hands i p hp
  obtain ⟨_, w1, w2, w3⟩ := g.wf.hand x (List.mem_of_getElem? h1)
  refine ⟨x, dx, na, q, h1, h2, h.mov g h3, w1, w2, ?_⟩
  have := so i
  refine Nat.lt_of_lt_of_le (show _ < 10000000000000 by omega) (by decide)
end
end Cw

/-! The walk through parts: what is made. -/
namespace Cw
open PySem PySem.Spec PyProof.Rows L2 Evl
section
variable {K : PySem.W.Frag} {σ : L2.St} {H H0 H' : Hp} {to tv ta tb te tx : TE} {x y z v : V} {D : Ends} {tu tw tz : TS}
/-- p.f = e -/
theorem s_st {p C dx : Addr} {fs : List (Str × V)} {f : Str} (hp : H p = some (.ins C dx fs)) (hv : Ev tv σ H v) (ho : Ev to σ H (.ref p)) (cl : Cls K C) (n : NoAttr K C f) (few : fs.length < 1000) (k : ∀ H1, Ex H H1 → D.nx σ (upd H1 p (.ins C dx (putF f v fs)))) :
    sFld K to tv f D σ H := hv H (Ex.refl H) _ fun H1 e1 => ho H1 e1 _ fun H2 e2 => ⟨p, C, dx, fs, rfl, (e1.trans e2) _ _ hp, cl, n, few, k H2 (e1.trans e2)⟩
theorem s_stB {p C dx : Addr} {fs : List (Str × V)} {f : Str} (hp : H p = some (.ins C dx fs)) (eb : ExB p H0 H) (hv : Ev tv σ H v) (ho : Ev to σ H (.ref p)) (cl : Cls K C) (n : NoAttr K C f) (few : fs.length < 1000) (k : ∀ H1, H1 p = some (.ins C dx (putF f v fs)) → ExB p H0 H1 → D.nx σ H1) :
    sFld K to tv f D σ H := s_st hp hv ho cl n few fun H1 e1 => k _ upd_same ((eb.trans (ExB.of e1)).trans (ExB.upd p H1 _))
theorem q_st {p C dx : Addr} {fs : List (Str × V)} {f : Str} (hp : H p = some (.ins C dx fs)) (hv : Ev tv σ H v) (ho : Ev to σ H (.ref p)) (cl : Cls K C) (n : NoAttr K C f) (few : fs.length < 1000) (k : ∀ H1, Ex H H1 → tz D σ (upd H1 p (.ins C dx (putF f v fs)))) :
    tSeq (sFld K to tv f) tz D σ H := s_st (D := { D with nx := tz D }) hp hv ho cl n few k
theorem q_stB {p C dx : Addr} {fs : List (Str × V)} {f : Str} (hp : H p = some (.ins C dx fs)) (eb : ExB p H0 H) (hv : Ev tv σ H v) (ho : Ev to σ H (.ref p)) (cl : Cls K C) (n : NoAttr K C f) (few : fs.length < 1000) (k : ∀ H1, H1 p = some (.ins C dx (putF f v fs)) → ExB p H0 H1 → tz D σ H1) :
    tSeq (sFld K to tv f) tz D σ H := s_stB (D := { D with nx := tz D }) hp eb hv ho cl n few k
/-- what stands while works are made: lists so far -/
structure WIn (H0 : Hp) (p C dx : Addr) (ls : List Addr) (fs : List (Str × V)) (H : Hp) : Prop where
  at_ : H p = some (.ins C dx fs)
  eb : ExB p H0 H
  each : ∀ l ∈ ls, H l = some (.lst []) ∧ H0 l = none
  nd : ls.Nodup
theorem q_stL {p C dx : Addr} {fs : List (Str × V)} {f : Str} {ls : List Addr} (w : WIn H0 p C dx ls fs H) (hv : EvL tv σ H []) (ho : ∀ H1, Ev to σ H1 (.ref p)) (cl : Cls K C) (n : NoAttr K C f) (few : fs.length < 1000) (hp0 : H0 p ≠ none) (k : ∀ l H1, WIn H0 p C dx (ls ++ [l]) (putF f (.ref l) fs) H1 → tz D σ H1) :
    tSeq (sFld K to tv f) tz D σ H := hv H (Ex.refl H) _ fun l H1 nl e1 hl => ho H1 H1 (Ex.refl H1) _ fun H2 e2 => ⟨p, C, dx, fs, rfl, (e1.trans e2) _ _ w.at_, cl, n, few, by
      have e12 := e1.trans e2
      have n0 : H0 l = none := by
        cases q : H0 l with
        | none => rfl
        | some o =>
          by_cases e : l = p
          · rw [e, w.at_] at nl
            cases nl
          · have := w.eb l o e q
            rw [nl] at this
            cases this
      have lp : l ≠ p := fun e => by
        rw [e] at n0
        exact hp0 n0
      refine k l _ ⟨upd_same, (w.eb.trans (ExB.of e12)).trans (ExB.upd p H2 _), fun m hm => ?_, ?_⟩
      · rcases List.mem_append.mp hm with q | q
        · obtain ⟨a, b⟩ := w.each m q
          refine ⟨?_, b⟩
          have mp : m ≠ p := fun e => by
            rw [e] at b
            exact hp0 b
          rw [upd_ne mp]
          exact e12 _ _ a
        · have : m = l := by simpa using q
          subst this
          refine ⟨?_, n0⟩
          rw [upd_ne lp]
          exact e2 _ _ hl
      · rw [List.nodup_append]
        refine ⟨w.nd, by simp, fun a ha b hb => ?_⟩
        have hb' : b = l := by simpa using hb
        rw [hb']
        intro e
        rw [e] at ha
        rw [(w.each l ha).1] at nl
        cases nl⟩
/-- a new instance -/
def EvI (te : TE) (σ : L2.St) (H : Hp) (C : Addr) (fs : List (Str × V)) : Prop := ∀ H1, Ex H H1 → ∀ Q : VK, (∀ p dx H2, H1 p = none → Ex H1 H2 → H2 p = some (.ins C dx fs) → Q (.ref p) H2) → te σ H1 Q
/-- an __init__'s promise: the new instance gets its attributes, all else stands -/
def spI (C : Addr) (pre : List V → Hp → List (Str × V) → Prop) : Sp := fun vs H Q _ => ∃ p dx us fs, vs = .ref p :: us ∧ H p = some (.ins C dx []) ∧ pre us H fs ∧ ∀ H', H' p = some (.ins C dx fs) → ExB p H H' → Q .non H'
theorem ei_make {C : Addr} {pre : List V → Hp → List (Str × V) → Prop} {dvs vs : List V} {E : XK} {ta : TA} {fs : List (Str × V)} (h : EvA ta σ H vs) (hs : ∀ H1, Ex H H1 → pre (vs ++ dvs) H1 fs) : EvI (tMake C (spI C pre) dvs E ta) σ H C fs := fun H1 e Q q =>
  h H1 e _ fun H2 e2 x dx nx ndx ne => ⟨x, dx, vs ++ dvs, fs, rfl, upd_same, hs _ ((e.trans e2).trans ((Ex.new ndx).trans (Ex.new (by rw [upd_ne (Ne.symm ne)]; exact nx)))), fun H' hx eb => ⟨rfl, q x dx H' (fresh_back e2 nx) (e2.trans fun b o hb => by
    refine eb b o (ne_of_none hb nx) ?_
    rw [upd_ne (ne_of_none hb nx), upd_ne (ne_of_none hb ndx)]
    exact hb) hx⟩⟩
/-- xs.append(C(..)) -/
theorem s_appI {l : Addr} {xs : List V} {C : Addr} {fs : List (Str × V)} (hl : H l = some (.lst xs)) (ha : Ev ta σ H (.ref l)) (h : EvI te σ H C fs) (hz : xs.length < 100000) (k : ∀ p dx H1, H p = none → Ex H H1 → H1 p = some (.ins C dx fs) → D.nx σ (upd H1 l (.lst (xs ++ [.ref p])))) :
    tDrop (tBM K "list" rAppend ta (tCons te tNil)) D σ H := ha H (Ex.refl H) _ fun H1 e1 =>
  ⟨Or.inl ⟨rfl, xs, sq_of (e1 l _ hl)⟩, h H1 e1 _ fun p dx H2 hp e2 h2 => ⟨l, xs, .ref p, rfl, rfl, e2 l _ (e1 l _ hl), sz_lt hz, k p dx H2 (fresh_back e1 hp) (e1.trans e2) h2⟩⟩
theorem q_appI {l : Addr} {xs : List V} {C : Addr} {fs : List (Str × V)} (hl : H l = some (.lst xs)) (ha : Ev ta σ H (.ref l)) (h : EvI te σ H C fs) (hz : xs.length < 100000) (k : ∀ p dx H1, H p = none → Ex H H1 → H1 p = some (.ins C dx fs) → tz D σ (upd H1 l (.lst (xs ++ [.ref p])))) :
    tSeq (tDrop (tBM K "list" rAppend ta (tCons te tNil))) tz D σ H := s_appI (D := { D with nx := tz D }) hl ha h hz k
end
section
variable {P : Program} {w : World} {K : PySem.W.Frag} {mg : Str → Option Value} {base : Heap} (T : Txt K mg)
def pMover : List V → Hp → List (Str × V) → Prop := fun us _ fs => ∃ (na : Addr) (pl : Int) (src : V) (st : Int), us = [.ref na, .int pl, src, .int st] ∧ fs = moverF na pl src st 0 1
theorem ok_Mover_init : FnOk P w K mg base CX0 1 T.Mover.f T.Mover.fd ["self", "name", "place", "source", "steps"] (spI T.Mover.C pMover) := by
  refine T.Mover.F.ok sc_Mover_init (fun vs H Q E h => ?_) (fun cdv A outer s H vs Q E hr h => ?_)
  · obtain ⟨p, dx, us, fs, rfl, _, ⟨na, pl, src, st, rfl, _⟩, _⟩ := h
    rfl
  · obtain ⟨p, dx, us, fs, rfl, hp, ⟨na, pl, src, st, rfl, rfl⟩, k⟩ := h
    refine ⟨_, (pss_cons (ps_fld (pv 0) (pv 1) rfl)
    (pss_cons (ps_fld (pv 0) (pv 2) rfl)
    (pss_cons (ps_fld (pv 0) (pv 3) rfl)
    (pss_cons (ps_fld (pv 0) (pv 4) rfl)
    (pss_cons (ps_fld (pv 0) pe_int rfl)
    (pss_one (ps_fld (pv 0) pe_int rfl))))))), ?_⟩
    refine q_stB hp (ExB.refl p H) (ev_var rfl) (ev_var rfl) T.Mover.cl T.n_Mover_name (by decide) fun H1 h1 b1 => ?_
    refine q_stB h1 b1 (ev_var rfl) (ev_var rfl) T.Mover.cl T.n_Mover_place (by show 1 < 1000; decide) fun H2 h2 b2 => ?_
    refine q_stB h2 b2 (ev_var rfl) (ev_var rfl) T.Mover.cl T.n_Mover_source (by show 2 < 1000; decide) fun H3 h3 b3 => ?_
    refine q_stB h3 b3 (ev_var rfl) (ev_var rfl) T.Mover.cl T.n_Mover_steps (by show 3 < 1000; decide) fun H4 h4 b4 => ?_
    refine q_stB h4 b4 ev_c (ev_var rfl) T.Mover.cl T.n_Mover_above (by show 4 < 1000; decide) fun H5 h5 b5 => ?_
    exact s_stB h5 b5 ev_c (ev_var rfl) T.Mover.cl T.n_Mover_below (by show 5 < 1000; decide) fun H6 h6 b6 => k H6 (by rw [h6]; rfl) b6
def pWheel : List V → Hp → List (Str × V) → Prop := fun us _ fs => ∃ (na ar : Addr) (te : Int), us = [.ref na, .ref ar, .int te] ∧ fs = wheelF na ar te
theorem ok_Wheel_init : FnOk P w K mg base CX0 1 T.Wheel.f T.Wheel.fd ["self", "name", "arbor", "teeth"] (spI T.Wheel.C pWheel) := by
  refine T.Wheel.F.ok sc_Wheel_init (fun vs H Q E h => ?_) (fun cdv A outer s H vs Q E hr h => ?_)
  · obtain ⟨p, dx, us, fs, rfl, _, ⟨na, ar, te, rfl, _⟩, _⟩ := h
    rfl
  · obtain ⟨p, dx, us, fs, rfl, hp, ⟨na, ar, te, rfl, rfl⟩, k⟩ := h
    refine ⟨_, (pss_cons (ps_fld (pv 0) (pv 1) rfl)
    (pss_cons (ps_fld (pv 0) (pv 2) rfl)
    (pss_one (ps_fld (pv 0) (pv 3) rfl)))), ?_⟩
    refine q_stB hp (ExB.refl p H) (ev_var rfl) (ev_var rfl) T.Wheel.cl T.n_Wheel_name (by decide) fun H1 h1 b1 => ?_
    refine q_stB h1 b1 (ev_var rfl) (ev_var rfl) T.Wheel.cl T.n_Wheel_arbor (by show 1 < 1000; decide) fun H2 h2 b2 => ?_
    exact s_stB h2 b2 (ev_var rfl) (ev_var rfl) T.Wheel.cl T.n_Wheel_teeth (by show 2 < 1000; decide) fun H6 h6 b6 => k H6 (by rw [h6]; rfl) b6
def pMesh : List V → Hp → List (Str × V) → Prop := fun us _ fs => ∃ (f g : Addr) (i : Bool) (car : V), us = [.ref f, .ref g, .bl i, car] ∧ fs = meshF f g i car
theorem ok_Mesh_init : FnOk P w K mg base CX0 1 T.Mesh.f T.Mesh.fd ["self", "first", "second", "inside", "carrier"] (spI T.Mesh.C pMesh) := by
  refine T.Mesh.F.ok sc_Mesh_init (fun vs H Q E h => ?_) (fun cdv A outer s H vs Q E hr h => ?_)
  · obtain ⟨p, dx, us, fs, rfl, _, ⟨f, g, i, car, rfl, _⟩, _⟩ := h
    rfl
  · obtain ⟨p, dx, us, fs, rfl, hp, ⟨f, g, i, car, rfl, rfl⟩, k⟩ := h
    refine ⟨_, (pss_cons (ps_fld (pv 0) (pv 1) rfl)
    (pss_cons (ps_fld (pv 0) (pv 2) rfl)
    (pss_cons (ps_fld (pv 0) (pv 3) rfl)
    (pss_one (ps_fld (pv 0) (pv 4) rfl))))), ?_⟩
    refine q_stB hp (ExB.refl p H) (ev_var rfl) (ev_var rfl) T.Mesh.cl T.n_Mesh_first (by decide) fun H1 h1 b1 => ?_
    refine q_stB h1 b1 (ev_var rfl) (ev_var rfl) T.Mesh.cl T.n_Mesh_second (by show 1 < 1000; decide) fun H2 h2 b2 => ?_
    refine q_stB h2 b2 (ev_var rfl) (ev_var rfl) T.Mesh.cl T.n_Mesh_inside (by show 2 < 1000; decide) fun H3 h3 b3 => ?_
    exact s_stB h3 b3 (ev_var rfl) (ev_var rfl) T.Mesh.cl T.n_Mesh_carrier (by show 3 < 1000; decide) fun H6 h6 b6 => k H6 (by rw [h6]; rfl) b6
def pHand : List V → Hp → List (Str × V) → Prop := fun us _ fs => ∃ (na mv : Addr) (ma off : Int), us = [.ref na, .ref mv, .int ma, .int off] ∧ fs = handF na mv ma off
theorem ok_Hand_init : FnOk P w K mg base CX0 1 T.Hand.f T.Hand.fd ["self", "name", "mover", "marks", "offset"] (spI T.Hand.C pHand) := by
  refine T.Hand.F.ok sc_Hand_init (fun vs H Q E h => ?_) (fun cdv A outer s H vs Q E hr h => ?_)
  · obtain ⟨p, dx, us, fs, rfl, _, ⟨na, mv, ma, off, rfl, _⟩, _⟩ := h
    rfl
  · obtain ⟨p, dx, us, fs, rfl, hp, ⟨na, mv, ma, off, rfl, rfl⟩, k⟩ := h
    refine ⟨_, (pss_cons (ps_fld (pv 0) (pv 1) rfl)
    (pss_cons (ps_fld (pv 0) (pv 2) rfl)
    (pss_cons (ps_fld (pv 0) (pv 3) rfl)
    (pss_one (ps_fld (pv 0) (pv 4) rfl))))), ?_⟩
    refine q_stB hp (ExB.refl p H) (ev_var rfl) (ev_var rfl) T.Hand.cl T.n_Hand_name (by decide) fun H1 h1 b1 => ?_
    refine q_stB h1 b1 (ev_var rfl) (ev_var rfl) T.Hand.cl T.n_Hand_mover (by show 1 < 1000; decide) fun H2 h2 b2 => ?_
    refine q_stB h2 b2 (ev_var rfl) (ev_var rfl) T.Hand.cl T.n_Hand_marks (by show 2 < 1000; decide) fun H3 h3 b3 => ?_
    exact s_stB h3 b3 (ev_var rfl) (ev_var rfl) T.Hand.cl T.n_Hand_offset (by show 3 < 1000; decide) fun H6 h6 b6 => k H6 (by rw [h6]; rfl) b6
def pStriker : List V → Hp → List (Str × V) → Prop := fun us _ fs => ∃ (na mv ns : Addr) (hd : V), us = [.ref na, .ref mv, .ref ns, hd] ∧ fs = strikerF na mv ns hd 0
theorem ok_Striker_init : FnOk P w K mg base CX0 1 T.Striker.f T.Striker.fd ["self", "name", "mover", "numbers", "hand"] (spI T.Striker.C pStriker) := by
  refine T.Striker.F.ok sc_Striker_init (fun vs H Q E h => ?_) (fun cdv A outer s H vs Q E hr h => ?_)
  · obtain ⟨p, dx, us, fs, rfl, _, ⟨na, mv, ns, hd, rfl, _⟩, _⟩ := h
    rfl
  · obtain ⟨p, dx, us, fs, rfl, hp, ⟨na, mv, ns, hd, rfl, rfl⟩, k⟩ := h
    refine ⟨_, (pss_cons (ps_fld (pv 0) (pv 1) rfl)
    (pss_cons (ps_fld (pv 0) (pv 2) rfl)
    (pss_cons (ps_fld (pv 0) (pv 3) rfl)
    (pss_cons (ps_fld (pv 0) (pv 4) rfl)
    (pss_one (ps_fld (pv 0) pe_int rfl)))))), ?_⟩
    refine q_stB hp (ExB.refl p H) (ev_var rfl) (ev_var rfl) T.Striker.cl T.n_Striker_name (by decide) fun H1 h1 b1 => ?_
    refine q_stB h1 b1 (ev_var rfl) (ev_var rfl) T.Striker.cl T.n_Striker_mover (by show 1 < 1000; decide) fun H2 h2 b2 => ?_
    refine q_stB h2 b2 (ev_var rfl) (ev_var rfl) T.Striker.cl T.n_Striker_numbers (by show 2 < 1000; decide) fun H3 h3 b3 => ?_
    refine q_stB h3 b3 (ev_var rfl) (ev_var rfl) T.Striker.cl T.n_Striker_hand (by show 3 < 1000; decide) fun H4 h4 b4 => ?_
    exact s_stB h4 b4 ev_c (ev_var rfl) T.Striker.cl T.n_Striker_place (by show 4 < 1000; decide) fun H6 h6 b6 => k H6 (by rw [h6]; rfl) b6
def pCal : List V → Hp → List (Str × V) → Prop := fun us _ fs => ∃ (na mv : Addr) (y m d : Int), us = [.ref na, .ref mv, .int y, .int m, .int d] ∧ fs = calF na mv y m d 0
theorem ok_Calendar_init : FnOk P w K mg base CX0 1 T.Calendar.f T.Calendar.fd ["self", "name", "mover", "year", "month", "day"] (spI T.Calendar.C pCal) := by
  refine T.Calendar.F.ok sc_Calendar_init (fun vs H Q E h => ?_) (fun cdv A outer s H vs Q E hr h => ?_)
  · obtain ⟨p, dx, us, fs, rfl, _, ⟨na, mv, y, m, d, rfl, _⟩, _⟩ := h
    rfl
  · obtain ⟨p, dx, us, fs, rfl, hp, ⟨na, mv, y, m, d, rfl, rfl⟩, k⟩ := h
    refine ⟨_, (pss_cons (ps_fld (pv 0) (pv 1) rfl)
    (pss_cons (ps_fld (pv 0) (pv 2) rfl)
    (pss_cons (ps_fld (pv 0) (pv 3) rfl)
    (pss_cons (ps_fld (pv 0) (pv 4) rfl)
    (pss_cons (ps_fld (pv 0) (pv 5) rfl)
    (pss_one (ps_fld (pv 0) pe_int rfl))))))), ?_⟩
    refine q_stB hp (ExB.refl p H) (ev_var rfl) (ev_var rfl) T.Calendar.cl T.n_Calendar_name (by decide) fun H1 h1 b1 => ?_
    refine q_stB h1 b1 (ev_var rfl) (ev_var rfl) T.Calendar.cl T.n_Calendar_mover (by show 1 < 1000; decide) fun H2 h2 b2 => ?_
    refine q_stB h2 b2 (ev_var rfl) (ev_var rfl) T.Calendar.cl T.n_Calendar_year (by show 2 < 1000; decide) fun H3 h3 b3 => ?_
    refine q_stB h3 b3 (ev_var rfl) (ev_var rfl) T.Calendar.cl T.n_Calendar_month (by show 3 < 1000; decide) fun H4 h4 b4 => ?_
    refine q_stB h4 b4 (ev_var rfl) (ev_var rfl) T.Calendar.cl T.n_Calendar_day (by show 4 < 1000; decide) fun H5 h5 b5 => ?_
    exact s_stB h5 b5 ev_c (ev_var rfl) T.Calendar.cl T.n_Calendar_offset (by show 5 < 1000; decide) fun H6 h6 b6 => k H6 (by rw [h6]; rfl) b6
def pBench : List V → Hp → List (Str × V) → Prop := fun us _ fs => us = [] ∧ fs = benchF .non
theorem ok_Bench_init : FnOk P w K mg base CX0 1 T.Bench.f T.Bench.fd ["self"] (spI T.Bench.C pBench) := by
  refine T.Bench.F.ok sc_Bench_init (fun vs H Q E h => ?_) (fun cdv A outer s H vs Q E hr h => ?_)
  · obtain ⟨p, dx, us, fs, rfl, _, ⟨rfl, _⟩, _⟩ := h
    rfl
  · obtain ⟨p, dx, us, fs, rfl, hp, ⟨rfl, rfl⟩, k⟩ := h
    refine ⟨_, (pss_one (ps_fld (pv 0) pe_non rfl)), ?_⟩
    exact s_stB hp (ExB.refl p H) ev_c (ev_var rfl) T.Bench.cl T.n_Bench_works (by decide) fun H6 h6 b6 => k H6 (by rw [h6]; rfl) b6
/-- Works(): seven new lists -/
def spWorksI (C : Addr) : Sp := fun vs H Q _ => ∃ p dx, vs = [.ref p] ∧ H p = some (.ins C dx []) ∧ ∀ la lw lm ls lh lk lc H', H' p = some (.ins C dx (worksF la lw lm ls lh lk lc .non 0 0)) → ExB p H H' →
  (∀ l ∈ [la, lw, lm, ls, lh, lk, lc], H' l = some (.lst []) ∧ H l = none) → [la, lw, lm, ls, lh, lk, lc].Nodup → Q .non H'
theorem ok_Works_init : FnOk P w K mg base CX0 1 T.Works.f T.Works.fd ["self"] (spWorksI T.Works.C) := by
  refine T.Works.F.ok sc_Works_init (fun vs H Q E h => ?_) (fun cdv A outer s H vs Q E hr h => ?_)
  · obtain ⟨p, dx, rfl, _⟩ := h
    rfl
  · obtain ⟨p, dx, rfl, hp, k⟩ := h
    refine ⟨_, (pss_cons (ps_fld (pv 0) (pe_lst pa_nil) rfl)
    (pss_cons (ps_fld (pv 0) (pe_lst pa_nil) rfl)
    (pss_cons (ps_fld (pv 0) (pe_lst pa_nil) rfl)
    (pss_cons (ps_fld (pv 0) (pe_lst pa_nil) rfl)
    (pss_cons (ps_fld (pv 0) (pe_lst pa_nil) rfl)
    (pss_cons (ps_fld (pv 0) (pe_lst pa_nil) rfl)
    (pss_cons (ps_fld (pv 0) (pe_lst pa_nil) rfl)
    (pss_cons (ps_fld (pv 0) pe_non rfl)
    (pss_cons (ps_fld (pv 0) pe_int rfl)
    (pss_one (ps_fld (pv 0) pe_int rfl))))))))))), ?_⟩
    have hp0 : H p ≠ none := by rw [hp]; exact fun z => by cases z
    have w0 : WIn H p T.Works.C dx [] [] H := ⟨hp, ExB.refl p H, fun l hl => by simp at hl, List.nodup_nil⟩
    refine q_stL w0 (el_lst ea_nil (Nat.zero_le _)) (fun _ => ev_var rfl) T.Works.cl T.n_Works_arbors (by decide) hp0 fun la H1 w1 => ?_
    refine q_stL w1 (el_lst ea_nil (Nat.zero_le _)) (fun _ => ev_var rfl) T.Works.cl T.n_Works_wheels (by show 1 < 1000; decide) hp0 fun lw H2 w2 => ?_
    refine q_stL w2 (el_lst ea_nil (Nat.zero_le _)) (fun _ => ev_var rfl) T.Works.cl T.n_Works_meshes (by show 2 < 1000; decide) hp0 fun lm H3 w3 => ?_
    refine q_stL w3 (el_lst ea_nil (Nat.zero_le _)) (fun _ => ev_var rfl) T.Works.cl T.n_Works_stars (by show 3 < 1000; decide) hp0 fun ls H4 w4 => ?_
    refine q_stL w4 (el_lst ea_nil (Nat.zero_le _)) (fun _ => ev_var rfl) T.Works.cl T.n_Works_hands (by show 4 < 1000; decide) hp0 fun lh H5 w5 => ?_
    refine q_stL w5 (el_lst ea_nil (Nat.zero_le _)) (fun _ => ev_var rfl) T.Works.cl T.n_Works_strikers (by show 5 < 1000; decide) hp0 fun lk H6 w6 => ?_
    refine q_stL w6 (el_lst ea_nil (Nat.zero_le _)) (fun _ => ev_var rfl) T.Works.cl T.n_Works_calendars (by show 6 < 1000; decide) hp0 fun lc H7 w7 => ?_
    have ls_ne : ∀ l ∈ [la, lw, lm, ls, lh, lk, lc], l ≠ p := fun l hl e => hp0 (by rw [← e]; exact (w7.each l hl).2)
    refine q_stB w7.at_ (ExB.refl p H7) ev_c (ev_var rfl) T.Works.cl T.n_Works_driver (by show 7 < 1000; decide) fun H8 h8 b8 => ?_
    refine q_stB h8 b8 ev_c (ev_var rfl) T.Works.cl T.n_Works_seconds (by show 8 < 1000; decide) fun H9 h9 b9 => ?_
    refine s_stB h9 b9 ev_c (ev_var rfl) T.Works.cl T.n_Works_now (by show 9 < 1000; decide) fun H10 h10 b10 => ?_
    exact k la lw lm ls lh lk lc H10 (by rw [h10]; rfl) (w7.eb.trans b10) (fun l hl => ⟨b10 _ _ (ls_ne l hl) (w7.each l hl).1, (w7.each l hl).2⟩) w7.nd
end
end Cw

/-! The walk through parts: names found. -/
namespace Cw
open PySem PySem.Spec PyProof.Rows L2 Evl
open Mu07 (State Goes Works Star Q frac whole Bytes)
/-- the parts at ps have these names -/
structure NamedAt (K : PySem.W.Frag) (H : Hp) (ps : List Addr) (names : List Bytes) : Prop where
  len : ps.length = names.length
  at_ : ∀ (i : Nat) (p : Addr) (nm : Bytes), ps[i]? = some p → names[i]? = some nm → ∃ na, Fd K H p "name" (.ref na) ∧ H na = some (.lst (byV nm))
theorem NamedAt.ex {K : PySem.W.Frag} {H H' : Hp} {ps : List Addr} {names : List Bytes} (h : NamedAt K H ps names) (e : Ex H H') : NamedAt K H' ps names := ⟨h.len, fun i p nm a b => by
  obtain ⟨na, h1, h2⟩ := h.at_ i p nm a b
  exact ⟨na, h1.ex e, e _ _ h2⟩⟩
def optV (ps : List Addr) (o : Option Nat) : V := match o with
  | some i => .ref (ps.getD i 0)
  | none => .non
theorem lt_of_get {α : Type} {l : List α} {i : Nat} {x : α} (h : l[i]? = some x) : i < l.length := (List.getElem?_eq_some_iff.mp h).1
theorem getD_some {α : Type} {l : List α} {i : Nat} {x d : α} (h : l[i]? = some x) : l.getD i d = x := by
  rw [List.getD_eq_getElem?_getD, h]
  rfl
theorem optV_none {ps : List Addr} {o : Option Nat} : (!decide (optV ps o = V.non)) = o.isSome := by
  cases o with
  | none => rfl
  | some i =>
    have : decide (optV ps (some i) = V.non) = false := decide_eq_false fun z => by cases z
    rw [this]
    rfl
/-- a loop over a new tuple -/
theorem q_forNT {K : PySem.W.Frag} {σ : L2.St} {H : Hp} {D : Ends} {tu tz : TS} {xs : List V} {tl : TE} {j : Nat} (h : EvU tl σ H xs) (Pv : Addr → Nat → L2.St → Hp → Prop) (h0 : ∀ p H1, H p = none → Ex H H1 → H1 p = some (.tup xs) → Pv p 0 σ H1) (hl : ∀ p i σ' H', i ≤ xs.length → Pv p i σ' H' → SqT K H' p xs)
    (hs : ∀ p i x σ' H', xs[i]? = some x → Pv p i σ' H' → tu { D with nx := Pv p (i + 1), ct := Pv p (i + 1), bk := tz D } (σ'.set j (some x)) H') (hd : ∀ p σ' H', Pv p xs.length σ' H' → tz D σ' H') : tSeq (tFor (iTup K tl) (gName j) tu) tz D σ H :=
  h H (Ex.refl H) _ fun p H1 hp e h1 => ⟨p, rfl, ⟨xs, st_of h1⟩, for_tup (Pv p) (h0 p H1 hp e h1) (hl p) (hs p) (hd p)⟩
section
variable {P : Program} {w : World} {K : PySem.W.Frag} {mg : Str → Option Value} {base : Heap} (T : Txt K mg)
def pFind (K : PySem.W.Frag) : List V → Hp → V → Prop := fun vs H z => ∃ (lp q : Addr) (ps : List Addr) (names : List Bytes) (nm : Bytes), vs = [.ref lp, .ref q] ∧ H lp = some (.lst (refV ps)) ∧ NamedAt K H ps names ∧ H q = some (.lst (byV nm)) ∧ z = optV ps (Mu07.indexOf names nm)
theorem ok_find : FnOk P w K mg base CX0 1 T.find.f T.find.fd ["parts", "name"] (spV (pFind K)) := by
  refine T.find.F.ok sc_find (fun vs H Q E h => ?_) (fun cdv A outer s H vs Q E hr h => ?_)
  · obtain ⟨z, ⟨lp, q, ps, names, nm, rfl, _⟩, _⟩ := h
    rfl
  · obtain ⟨z, ⟨lp, q, ps, names, nm, rfl, hl, hN, hq, rfl⟩, k⟩ := h
    refine ⟨_, (pss_cons (ps_for PassesOwn.never rfl (pi_list (pv 0)) (pg_name (i := 2) sc_find.nd rfl (Or.inl rfl))
    (pss_one (ps_if (pt_cmpR (op_eqD hr.units) (pe_fld (pv 2) rfl) (pv 1) (nomark _))
    (pss_one (ps_ret (pv 2))) pss_nil)))
    (pss_one (ps_ret pe_non))), ?_⟩
    refine q_forLn (ev_var rfl) (SqL.of hl) (fun i σ' H' => ∃ o, σ' = [some (.ref lp), some (.ref q), o] ∧ Ex H H' ∧ Mu07.indexOf (names.take i) nm = none) (fun H2 e2 => ⟨none, rfl, e2, rfl⟩) (fun i σ' H' _ hP => ?_) (fun i x σ' H' hi hP => ?_) (fun σ' H' hP => ?_)
    · obtain ⟨o, _, e, _⟩ := hP
      exact SqL.of (e _ _ hl)
    · obtain ⟨o, rfl, e, hz⟩ := hP
      obtain ⟨a, ha, rfl⟩ := refV_at hi
      have hi' : i < names.length := by
        rw [← hN.len]
        exact lt_of_get ha
      have en : names[i]? = some names[i] := List.getElem?_eq_getElem hi'
      obtain ⟨na, f1, f2⟩ := hN.at_ i a _ ha en
      have fi : Mu07.indexOf (names.take (i + 1)) nm = if (names[i] == nm) = true then some i else none := by
        unfold Mu07.indexOf at hz ⊢
        rw [take_more en, List.findIdx?_append, hz]
        have tl : (names.take i).length = i := by rw [List.length_take]; omega
        cases hc : names[i] == nm
        · simp [List.findIdx?_cons, hc]
        · simp [List.findIdx?_cons, hc]
          omega
      refine s_when (et_test (ev_is (ev_eqL (a := byZ names[i]) (b := byZ nm) (ev_fld (ev_var rfl) (f1.ex e)) (ev_var rfl) (SqL.of (by rw [← byV_z]; exact e _ _ f2)) (SqL.of (by rw [← byV_z]; exact e _ _ hq))) (congrArg V.bl (byZ_dec _ _)))) (fun hb H2 e2 => ?_) (fun hb H2 e2 => ?_)
      · have : Mu07.indexOf names nm = some i := by
          have e1 : Mu07.indexOf (names.take (i + 1) ++ names.drop (i + 1)) nm = some i := by
            unfold Mu07.indexOf at fi ⊢
            rw [List.findIdx?_append, fi, if_pos hb]
            rfl
          rw [List.take_append_drop] at e1
          exact e1
        rw [this] at k
        have : optV ps (some i) = .ref a := congrArg V.ref (getD_some ha)
        rw [this] at k
        exact s_ret (ev_var rfl) fun H3 e3 => k H3 ((e.trans e2).trans e3)
      · refine ⟨some (.ref a), rfl, e.trans e2, ?_⟩
        rw [fi, if_neg (by rw [hb]; decide)]
    · obtain ⟨o, rfl, e, hz⟩ := hP
      rw [refV_len, hN.len, List.take_length] at hz
      rw [hz] at k
      exact s_ret ev_c fun H3 e3 => k H3 (e.trans e3)
/-- the works' names -/
structure WNames (K : PySem.W.Frag) (H : Hp) (L : Lay) (W : Works) : Prop where
  la : Fd K H L.a "arbors" (.ref L.la) ∧ H L.la = some (.lst (refV L.ar)) ∧ NamedAt K H L.ar W.arbors
  lw : Fd K H L.a "wheels" (.ref L.lw) ∧ H L.lw = some (.lst (refV L.wh)) ∧ NamedAt K H L.wh (W.wheels.map fun (x : Mu07.Wheel) => x.name)
  ls : Fd K H L.a "stars" (.ref L.ls) ∧ H L.ls = some (.lst (refV L.st)) ∧ NamedAt K H L.st (W.stars.map fun (x : Star) => x.name)
  lh : Fd K H L.a "hands" (.ref L.lh) ∧ H L.lh = some (.lst (refV L.ha)) ∧ NamedAt K H L.ha (W.hands.map fun (x : Mu07.Hand) => x.name)
  lk : Fd K H L.a "strikers" (.ref L.lk) ∧ H L.lk = some (.lst (refV L.sk)) ∧ NamedAt K H L.sk (W.strikers.map fun (x : Mu07.Striker) => x.name)
  lc : Fd K H L.a "calendars" (.ref L.lc) ∧ H L.lc = some (.lst (refV L.ca)) ∧ NamedAt K H L.ca (W.calendars.map fun (x : Mu07.Calendar) => x.name)
theorem WNames.ex {H H' : Hp} {L : Lay} {W : Works} (h : WNames K H L W) (e : Ex H H') : WNames K H' L W :=
  ⟨⟨h.la.1.ex e, e _ _ h.la.2.1, h.la.2.2.ex e⟩, ⟨h.lw.1.ex e, e _ _ h.lw.2.1, h.lw.2.2.ex e⟩, ⟨h.ls.1.ex e, e _ _ h.ls.2.1, h.ls.2.2.ex e⟩, ⟨h.lh.1.ex e, e _ _ h.lh.2.1, h.lh.2.2.ex e⟩, ⟨h.lk.1.ex e, e _ _ h.lk.2.1, h.lk.2.2.ex e⟩, ⟨h.lc.1.ex e, e _ _ h.lc.2.1, h.lc.2.2.ex e⟩⟩
theorem map_get {α β : Type} {l : List α} {f : α → β} {i : Nat} {y : β} (h : (l.map f)[i]? = some y) : ∃ x, l[i]? = some x ∧ f x = y := by
  rw [List.getElem?_map] at h
  cases e : l[i]? with
  | none => rw [e] at h; cases h
  | some x =>
    rw [e] at h
    exact ⟨x, rfl, Option.some.inj h⟩
theorem WAt.names {H : Hp} {L : Lay} {s : Mu07.State} (h : WAt T H L s) : WNames K H L s.works := by
  refine ⟨⟨T.fd_works_arbors h.w, h.lists.la, h.lens.ar, fun i p nm hp hn => ?_⟩, ⟨T.fd_works_wheels h.w, h.lists.lw, by rw [List.length_map]; exact h.lens.wh, fun i p nm hp hn => ?_⟩, ⟨T.fd_works_stars h.w, h.lists.ls, by rw [List.length_map]; exact h.lens.st, fun i p nm hp hn => ?_⟩,
    ⟨T.fd_works_hands h.w, h.lists.lh, by rw [List.length_map]; exact h.lens.ha, fun i p nm hp hn => ?_⟩, ⟨T.fd_works_strikers h.w, h.lists.lk, by rw [List.length_map]; exact h.lens.sk, fun i p nm hp hn => ?_⟩, ⟨T.fd_works_calendars h.w, h.lists.lc, by rw [List.length_map]; exact h.lens.ca, fun i p nm hp hn => ?_⟩⟩
  · obtain ⟨nm', dx, na, h1, h2, h3⟩ := h.arbs i p hp
    rw [hn] at h1
    cases h1
    exact ⟨na, T.fd_mover_name h2, h3.2⟩
  · obtain ⟨x, hx, rfl⟩ := map_get hn
    obtain ⟨x', dx, na, q, h1, h2, h3, h4⟩ := h.whls i p hp
    rw [hx] at h1
    cases h1
    exact ⟨na, T.fd_wheel_name h2, h4.2⟩
  · obtain ⟨x, hx, rfl⟩ := map_get hn
    obtain ⟨x', dx, na, q, h1, h2, h3, h4⟩ := h.stars i p hp
    rw [hx] at h1
    cases h1
    exact ⟨na, T.fd_mover_name h2, h4.2⟩
  · obtain ⟨x, hx, rfl⟩ := map_get hn
    obtain ⟨x', dx, na, q, h1, h2, h3, h4⟩ := h.hands i p hp
    rw [hx] at h1
    cases h1
    exact ⟨na, T.fd_hand_name h2, h4.2⟩
  · obtain ⟨x, hx, rfl⟩ := map_get hn
    obtain ⟨x', dx, na, q, ns, hd, h1, h2, h3, h4, _⟩ := h.strks i p hp
    rw [hx] at h1
    cases h1
    exact ⟨na, T.fd_striker_name h2, h4.2⟩
  · obtain ⟨x, hx, rfl⟩ := map_get hn
    obtain ⟨x', dx, na, q, h1, h2, h3, h4⟩ := h.cals i p hp
    rw [hx] at h1
    cases h1
    exact ⟨na, T.fd_cal_name h2, h4.2⟩
def goV (L : Lay) (o : Option Goes) : V := match o with
  | some (.arbor i) => .ref (L.ar.getD i 0)
  | some (.star i) => .ref (L.st.getD i 0)
  | none => .non
def pFindMover (K : PySem.W.Frag) : List V → Hp → V → Prop := fun vs H z => ∃ (L : Lay) (W : Works) (q : Addr) (nm : Bytes), vs = [.ref L.a, .ref q] ∧ WNames K H L W ∧ H q = some (.lst (byV nm)) ∧ z = goV L (Mu07.goes W nm)
theorem ok_find_mover : FnOk P w K mg base CX0 2 T.find_mover.f T.find_mover.fd ["works", "name"] (spV (pFindMover K)) := by
  refine T.find_mover.F.ok sc_find_mover (fun vs H Q E h => ?_) (fun cdv A outer s H vs Q E hr h => ?_)
  · obtain ⟨z, ⟨L, W, q, nm, rfl, _⟩, _⟩ := h
    rfl
  · obtain ⟨z, ⟨L, W, q, nm, rfl, hW, hq, rfl⟩, k⟩ := h
    refine ⟨_, (pss_cons (ps_set (i := 2) sc_find_mover.nd rfl (Or.inl rfl) (pe_call (ok_find T) (hr.mono (by decide)) (by rfl) T.find.g T.find.F.kp T.find.b .nil pass0 (pa_cons (pe_fld (pv 0) rfl) (pa_cons (pv 1) pa_nil))))
    (pss_cons (ps_if (pt_cmpR op_notN (pv 2) pe_non (nomark _))
    (pss_one (ps_ret (pv 2))) pss_nil)
    (pss_one (ps_ret (pe_call (ok_find T) (hr.mono (by decide)) (by rfl) T.find.g T.find.F.kp T.find.b .nil pass0 (pa_cons (pe_fld (pv 0) rfl) (pa_cons (pv 1) pa_nil))))))), ?_⟩
    refine q_asg (ev_call (ea_cons (ev_fld (ev_var rfl) hW.la.1) (ea_cons (ev_var rfl) ea_nil)) (sv_of fun H2 e2 => ⟨L.la, q, L.ar, W.arbors, nm, rfl, e2 _ _ hW.la.2.1, hW.la.2.2.ex e2, e2 _ _ hq, rfl⟩)) fun H2 e2 => ?_
    have hg : Mu07.goes W nm = match Mu07.indexOf W.arbors nm with | some i => some (.arbor i) | none => (Mu07.star W nm).map Goes.star := rfl
    rw [hg] at k
    refine q_when (et_test (ev_op (ev_var rfl) ev_c rv_notN)) (fun hb H3 e3 => ?_) (fun hb H3 e3 => ?_)
    · cases hi : Mu07.indexOf W.arbors nm with
      | none =>
        rw [hi, optV_none] at hb
        cases hb
      | some i =>
        rw [hi] at k
        exact s_ret (ev_var rfl) fun H4 e4 => k H4 ((e2.trans e3).trans e4)
    · cases hi : Mu07.indexOf W.arbors nm with
      | some i =>
        rw [hi] at hb
        have hb : (!decide (V.ref (L.ar.getD i 0) = V.non)) = false := hb
        have : decide (V.ref (L.ar.getD i 0) = V.non) = false := decide_eq_false fun z => by cases z
        rw [this] at hb
        exact absurd hb (by decide)
      | none =>
        rw [hi] at k
        have hW3 := (hW.ex e2).ex e3
        refine s_ret (ev_call (ea_cons (ev_fld (ev_var rfl) hW3.ls.1) (ea_cons (ev_var rfl) ea_nil)) (sv_of fun H4 e4 => ⟨L.ls, q, L.st, _, nm, rfl, e4 _ _ hW3.ls.2.1, hW3.ls.2.2.ex e4, (e3.trans e4) _ _ (e2 _ _ hq), rfl⟩)) fun H4 e4 => ?_
        have e5 : goV L ((Mu07.star W nm).map Goes.star) = optV L.st (Mu07.indexOf (W.stars.map fun (x : Star) => x.name) nm) := by
          show goV L ((Mu07.indexOf (W.stars.map fun (x : Star) => x.name) nm).map Goes.star) = _
          cases Mu07.indexOf (W.stars.map fun (x : Star) => x.name) nm <;> rfl
        have k2 := k H4 ((e2.trans e3).trans e4)
        rw [← e5]
        exact k2
theorem goV_none {L : Lay} {o : Option Goes} : (!decide (goV L o = V.non)) = o.isSome := by
  cases o with
  | none => rfl
  | some g =>
    have : decide (goV L (some g) = V.non) = false := decide_eq_false fun z => by cases g <;> cases z
    rw [this]
    rfl
def pIsTaken (K : PySem.W.Frag) : List V → Hp → V → Prop := fun vs H z => ∃ (L : Lay) (W : Works) (q : Addr) (nm : Bytes), vs = [.ref L.a, .ref q] ∧ WNames K H L W ∧ H q = some (.lst (byV nm)) ∧ z = .bl (Mu07.there W nm)
theorem there_eq (W : Works) (nm : Bytes) : Mu07.there W nm = ((Mu07.goes W nm).isSome || ((Mu07.wheel W nm).isSome || ((Mu07.hand W nm).isSome || ((Mu07.striker W nm).isSome || (Mu07.calendar W nm).isSome)))) := by
  unfold Mu07.there Mu07.goes
  cases Mu07.arbor W nm with
  | some i => rfl
  | none =>
    cases Mu07.star W nm <;> cases Mu07.wheel W nm <;> rfl
theorem ok_is_taken : FnOk P w K mg base CX0 3 T.is_taken.f T.is_taken.fd ["works", "name"] (spV (pIsTaken K)) := by
  refine T.is_taken.F.ok sc_is_taken (fun vs H Q E h => ?_) (fun cdv A outer s H vs Q E hr h => ?_)
  · obtain ⟨z, ⟨L, W, q, nm, rfl, _⟩, _⟩ := h
    rfl
  · obtain ⟨z, ⟨L, W, q, nm, rfl, hW, hq, rfl⟩, k⟩ := h
    refine ⟨_, (pss_cons (ps_if (pt_cmpR op_notN (pe_call (ok_find_mover T) (hr.mono (by decide)) (by rfl) T.find_mover.g T.find_mover.F.kp T.find_mover.b .nil pass0 (pa_cons (pv 0) (pa_cons (pv 1) pa_nil))) pe_non (nomark _))
    (pss_one (ps_ret pe_bl)) pss_nil)
    (pss_cons (ps_for PassesOwn.never rfl (pi_tup (pe_tup (pa_cons (pe_fld (pv 0) rfl) (pa_cons (pe_fld (pv 0) rfl) (pa_cons (pe_fld (pv 0) rfl) (pa_cons (pe_fld (pv 0) rfl) pa_nil)))))) (pg_name (i := 2) sc_is_taken.nd rfl (Or.inl rfl))
    (pss_one (ps_if (pt_cmpR op_notN (pe_call (ok_find T) (hr.mono (by decide)) (by rfl) T.find.g T.find.F.kp T.find.b .nil pass0 (pa_cons (pv 2) (pa_cons (pv 1) pa_nil))) pe_non (nomark _))
    (pss_one (ps_ret pe_bl)) pss_nil)))
    (pss_one (ps_ret pe_bl)))), ?_⟩
    rw [there_eq] at k
    refine q_when (et_test (ev_is (ev_op (ev_call (ea_cons (ev_var rfl) (ea_cons (ev_var rfl) ea_nil)) (sv_of fun H2 e2 => ⟨L, W, q, nm, rfl, hW.ex e2, e2 _ _ hq, rfl⟩)) ev_c rv_notN) (congrArg V.bl goV_none))) (fun hb H2 e2 => ?_) (fun hb H2 e2 => ?_)
    · rw [hb] at k
      exact s_ret ev_c fun H3 e3 => k H3 (e2.trans e3)
    · rw [hb, Bool.false_or] at k
      have hW2 := hW.ex e2
      -- the four other lists, one behind another
      let nms : List (Addr × List Addr × List Bytes) := [(L.lw, L.wh, W.wheels.map fun (x : Mu07.Wheel) => x.name), (L.lh, L.ha, W.hands.map fun (x : Mu07.Hand) => x.name), (L.lk, L.sk, W.strikers.map fun (x : Mu07.Striker) => x.name), (L.lc, L.ca, W.calendars.map fun (x : Mu07.Calendar) => x.name)]
      have hn : ∀ y ∈ nms, H2 y.1 = some (.lst (refV y.2.1)) ∧ NamedAt K H2 y.2.1 y.2.2 := fun y hy => by
        rcases List.mem_cons.mp hy with rfl | hy
        · exact hW2.lw.2
        · rcases List.mem_cons.mp hy with rfl | hy
          · exact hW2.lh.2
          · rcases List.mem_cons.mp hy with rfl | hy
            · exact hW2.lk.2
            · have : y = _ := List.mem_singleton.mp hy
              subst this
              exact hW2.lc.2
      have kk : ∀ H3, Ex H H3 → Q (.bl (nms.any fun y => (Mu07.indexOf y.2.2 nm).isSome)) H3 := fun H3 e3 => by
        have e0 : (nms.any fun y => (Mu07.indexOf y.2.2 nm).isSome) = ((Mu07.wheel W nm).isSome || ((Mu07.hand W nm).isSome || ((Mu07.striker W nm).isSome || (Mu07.calendar W nm).isSome))) := by
          show (((Mu07.wheel W nm).isSome || ((Mu07.hand W nm).isSome || ((Mu07.striker W nm).isSome || ((Mu07.calendar W nm).isSome || false))))) = _
          rw [Bool.or_false]
        rw [e0]
        exact k H3 e3
      have hnm : nms.map (fun y => V.ref y.1) = [V.ref L.lw, V.ref L.lh, V.ref L.lk, V.ref L.lc] := rfl
      clear_value nms
      refine q_forNT (K := K) (xs := nms.map fun y => V.ref y.1) (by rw [hnm]; exact eu_tup (ea_cons (ev_fld (ev_var rfl) hW2.lw.1) (ea_cons (ev_fld (ev_var rfl) hW2.lh.1) (ea_cons (ev_fld (ev_var rfl) hW2.lk.1) (ea_cons (ev_fld (ev_var rfl) hW2.lc.1) ea_nil)))) (Nat.le_of_ble_eq_true rfl))
        (fun tp i σ' H' => ∃ o, σ' = [some (.ref L.a), some (.ref q), o] ∧ Ex H2 H' ∧ H' tp = some (.tup (nms.map fun y => V.ref y.1)) ∧ ((nms.take i).any fun y => (Mu07.indexOf y.2.2 nm).isSome) = false) (fun tp H3 ntp e3 htp => ⟨none, rfl, e3, htp, rfl⟩) (fun tp i σ' H' _ hP => ?_) (fun tp i x σ' H' hi hP => ?_) (fun tp σ' H' hP => ?_)
      · obtain ⟨o, _, e, htp, _⟩ := hP
        exact SqT.of htp
      · obtain ⟨o, rfl, e2', htp, hz⟩ := hP
        obtain ⟨y, hy, rfl⟩ := map_get hi
        obtain ⟨y1, y2⟩ := hn y (List.mem_of_getElem? hy)
        refine s_when (et_test (ev_is (ev_op (ev_call (ea_cons (ev_var rfl) (ea_cons (ev_var rfl) ea_nil)) (sv_of fun H4 e4 => ⟨y.1, q, y.2.1, y.2.2, nm, rfl, (e2'.trans e4) _ _ y1, y2.ex (e2'.trans e4), ((e2.trans e2').trans e4) _ _ hq, rfl⟩)) ev_c rv_notN) (congrArg V.bl optV_none))) (fun hb H4 e4 => ?_) (fun hb H4 e4 => ?_)
        · have : (nms.any fun y => (Mu07.indexOf y.2.2 nm).isSome) = true := List.any_eq_true.mpr ⟨y, List.mem_of_getElem? hy, hb⟩
          rw [this] at kk
          exact s_ret ev_c fun H5 e5 => kk H5 (((e2.trans e2').trans e4).trans e5)
        · refine ⟨some (.ref y.1), rfl, e2'.trans e4, e4 _ _ htp, ?_⟩
          rw [take_more hy, List.any_append, hz]
          simp only [List.any_cons, List.any_nil, Bool.or_false, Bool.false_or]
          exact hb
      · obtain ⟨o, rfl, e2', htp, hz⟩ := hP
        rw [List.length_map, List.take_length] at hz
        rw [hz] at kk
        exact s_ret ev_c fun H5 e5 => kk H5 ((e2.trans e2').trans e5)
end
end Cw

/-! The walk through words: signs, letters, names, numbers. -/
namespace Cw
open PySem PySem.Spec PyProof.Rows L2 Evl
open Mu07 (Bytes small digit part numberOf)
theorem byV_len (b : List Nat) : (byV b).length = b.length := List.length_map _
theorem byV_at {r : List Nat} {i : Nat} {x : V} (h : (byV r)[i]? = some x) : ∃ z, r[i]? = some z ∧ x = .int (z : Int) := by
  obtain ⟨z, hz, e⟩ := map_get h
  exact ⟨z, hz, e.symm⟩
theorem byV_get {r : List Nat} {i : Nat} (h : i < r.length) : (byV r)[i]? = some (.int (r.getD i 0 : Nat)) := by
  unfold byV
  rw [List.getElem?_map, List.getElem?_eq_getElem h, getD_get h]
  rfl
theorem byV_app (a b : List Nat) : byV (a ++ b) = byV a ++ byV b := List.map_append
/-- a list of new lists -/
def EvLL (te : TE) (σ : L2.St) (H : Hp) (rows : List (List Nat)) : Prop := ∀ H1, Ex H H1 → ∀ Q : VK, (∀ p qs H2, H1 p = none → (∀ q ∈ qs, H1 q = none) → Ex H1 H2 → H2 p = some (.lst (refV qs)) → RowsAt H2 qs (rows.map byZ) → Q (.ref p) H2) → te σ H1 Q
def spLL (pre : List V → Hp → List (List Nat) → Prop) : Sp := fun vs H Q _ => ∃ rows, pre vs H rows ∧ ∀ p qs H2, H p = none → (∀ q ∈ qs, H q = none) → Ex H H2 → H2 p = some (.lst (refV qs)) → RowsAt H2 qs (rows.map byZ) → Q (.ref p) H2
section
variable {K : PySem.W.Frag} {σ : L2.St} {H H' : Hp} {ta tb te tl : TE} {t : TT} {D : Ends} {tz : TS} {rows : List (List Nat)}
theorem ell_call {pre : List V → Hp → List (List Nat) → Prop} {dvs vs : List V} {E : XK} {ta : TA} (h : EvA ta σ H vs) (hs : ∀ H1, Ex H H1 → pre (vs ++ dvs) H1 rows) : EvLL (tCall (spLL pre) dvs E ta) σ H rows := fun H1 e Q q =>
  h H1 e _ fun H2 e2 => ⟨rows, hs H2 (e.trans e2), fun p qs H3 a b e3 c d => q p qs H3 (fresh_back e2 a) (fun x hx => fresh_back e2 (b x hx)) (e2.trans e3) c d⟩
theorem s_retLL (h : EvLL te σ H rows) (k : ∀ p qs H1, H p = none → (∀ q ∈ qs, H q = none) → Ex H H1 → H1 p = some (.lst (refV qs)) → RowsAt H1 qs (rows.map byZ) → D.rt (.ref p) H1) : tRet te D σ H := h H (Ex.refl H) _ k
theorem q_asgLL {i : Nat} (h : EvLL te σ H rows) (k : ∀ p qs H1, H p = none → (∀ q ∈ qs, H q = none) → Ex H H1 → H1 p = some (.lst (refV qs)) → RowsAt H1 qs (rows.map byZ) → tz D (σ.set i (some (.ref p))) H1) : tSeq (tAsg te (gName i)) tz D σ H := h H (Ex.refl H) _ k
/-- [e for c in text] -/
theorem el_str {z : Str} {j : Nat} {vs : List Nat} (g : Nat → V) (h : Ev tl σ H (.str z)) (hz : z.cps.size ≤ 40000) (hw : ∀ x, wipe ((wipe σ vs).set j (some x)) vs = wipe σ vs)
    (he : ∀ (c : Nat) H1, Ex H H1 → Ev te ((wipe σ vs).set j (some (.str ⟨#[c]⟩))) H1 (g c)) : EvL (tLc (iStr tl) (gName j) tYes te vs) σ H (z.cps.toList.map g) := fun H0 e Q q => h H0 e _ fun H1 e1 => ⟨z, rfl, fun Dl hD => by
  let v : Nat → V := fun i => g (z.cps.getD i 0)
  refine ⟨fun i m H2 => m = z.cps.size - i ∧ i ≤ z.cps.size ∧ Cw H1 (fun _ => true) v Dl i H2, ⟨_, rfl, Nat.zero_le _, hD, Ex.new hD, upd_same⟩, ?_⟩
  rintro i m H2 ⟨rfl, hi, p⟩
  by_cases lt : i < z.cps.size
  · refine .inr ⟨lt, fun H3 => Cw H1 (fun _ => true) v Dl (i + 1) H3, fun H3 p3 => ⟨z.cps.size - (i + 1), by omega, rfl, lt, p3⟩, fun x H3 y => ?_⟩
    obtain ⟨rfl, c, hc, rfl⟩ := y
    refine ⟨hw _, ?_⟩
    have ev : v i = g c := by
      show g (z.cps.getD i 0) = g c
      rw [Array.getD_eq_getD_getElem?, hc]
      rfl
    exact cw_turn (f := fun _ => true) (v := v) p (by omega) et_yes fun _ => by rw [ev]; exact he c H1 (e.trans e1)
  · have ei : i = z.cps.size := by omega
    refine .inl ⟨by show z.cps.size ≤ i; omega, ?_⟩
    subst ei
    refine q Dl H2 (fresh_back e1 p.1) (e1.trans p.2.1) ?_
    rw [p.2.2]
    congr 2
    unfold given
    rw [List.filter_eq_self.mpr (fun _ _ => rfl)]
    refine List.ext_getElem (by simp) fun k h1 h2 => ?_
    have hk : k < z.cps.size := by simpa using h1
    simp only [List.getElem_map, List.getElem_range, Array.getElem_toList]
    show g (z.cps.getD k 0) = _
    rw [Array.getD_eq_getD_getElem?, Array.getElem?_eq_getElem hk]
    rfl⟩
end
/-! ### plain functions -/
def isName (w : Bytes) : Bool := !(decide (12 < w.length) || !small (w.getD 0 0)) && w.all part
def isNumber (w : Bytes) : Bool := !(decide (9 < w.length) || (decide (1 < w.length) && (w.getD 0 0 == 48))) && w.all digit
section
variable {P : Program} {w : World} {K : PySem.W.Frag} {mg : Str → Option Value} {base : Heap} (T : Txt K mg)
def pSigns : List V → Hp → List V → Prop := fun vs _ xs => ∃ z : Str, vs = [.str z] ∧ z.cps.size ≤ 1000 ∧ xs = byV z.cps.toList
theorem ok_signs : FnOk P w K mg base CX0 1 T.signs.f T.signs.fd ["text"] (spL pSigns) := by
  refine T.signs.F.ok sc_signs (fun vs H Q E h => ?_) (fun cdv A outer s H vs Q E hr h => ?_)
  · obtain ⟨z, ⟨x, rfl, _⟩, _⟩ := h
    rfl
  · obtain ⟨z, ⟨x, rfl, hx, rfl⟩, k⟩ := h
    refine ⟨_, (pss_one (ps_ret (pe_lc (own := [("sign", 1)]) (g := gName 1) (tt := tYes) rfl sc_signs.nd (pi_str (pv 0)) (blkOk_by (N := ["text", "sign"]) (sc := defScope tx_signs) (by decide +kernel)) (fun _ _ _ _ _ => pg_name (i := 1) sc_signs.nd rfl (Or.inl rfl)) (fun _ _ _ _ _ => pts_nil) (fun _ _ _ _ _ => (pe_callB call_ord (by rfl) T.b_ord (by decide +kernel) (pa_cons (pv 1) pa_nil)))))), ?_⟩
    refine s_retL (el_str (fun c => .int (c : Int)) (ev_var rfl) (by omega) (fun _ => rfl) fun c H1 e1 => ?_) k
    intro H2 e2 Q2 q2
    exact ⟨.str ⟨#[c]⟩, rfl, ⟨#[c]⟩, rfl, rfl, q2 H2 (Ex.refl H2)⟩
def pSmall : List V → Hp → V → Prop := fun vs _ z => ∃ c : Nat, vs = [.int c] ∧ z = .bl (small c)
theorem ok_is_small_letter : FnOk P w K mg base CX0 1 T.is_small_letter.f T.is_small_letter.fd ["byte"] (spV pSmall) := by
  refine T.is_small_letter.F.ok sc_is_small_letter (fun vs H Q E h => ?_) (fun cdv A outer s H vs Q E hr h => ?_)
  · obtain ⟨z, ⟨c, rfl, _⟩, _⟩ := h
    rfl
  · obtain ⟨z, ⟨c, rfl, rfl⟩, k⟩ := h
    refine ⟨_, (pss_one (ps_ret (pe_and (pe_cmpR op_ge (pv 0) pe_int (nomark _)) (pe_one (pe_cmpR op_le (pv 0) pe_int (nomark _)))))), ?_⟩
    refine s_ret (ev_is (ev_andV (ev_i (ev_var rfl) ev_c) fun _ => ev_i (ev_var rfl) ev_c) (congrArg V.bl ?_)) k
    unfold small
    congr 1 <;> exact decide_eq_decide.mpr (by omega)
def pDigit : List V → Hp → V → Prop := fun vs _ z => ∃ c : Nat, vs = [.int c] ∧ z = .bl (digit c)
theorem ok_is_digit : FnOk P w K mg base CX0 1 T.is_digit.f T.is_digit.fd ["byte"] (spV pDigit) := by
  refine T.is_digit.F.ok sc_is_digit (fun vs H Q E h => ?_) (fun cdv A outer s H vs Q E hr h => ?_)
  · obtain ⟨z, ⟨c, rfl, _⟩, _⟩ := h
    rfl
  · obtain ⟨z, ⟨c, rfl, rfl⟩, k⟩ := h
    refine ⟨_, (pss_one (ps_ret (pe_and (pe_cmpR op_ge (pv 0) pe_int (nomark _)) (pe_one (pe_cmpR op_le (pv 0) pe_int (nomark _)))))), ?_⟩
    refine s_ret (ev_is (ev_andV (ev_i (ev_var rfl) ev_c) fun _ => ev_i (ev_var rfl) ev_c) (congrArg V.bl ?_)) k
    unfold digit
    congr 1 <;> exact decide_eq_decide.mpr (by omega)
def pWord (f : Bytes → Bool) : List V → Hp → V → Prop := fun vs H z => ∃ (p : Addr) (b : Bytes), vs = [.ref p] ∧ H p = some (.lst (byV b)) ∧ b ≠ [] ∧ b.length ≤ 4000 ∧ z = .bl (f b)
theorem ok_is_name : FnOk P w K mg base CX0 2 T.is_name.f T.is_name.fd ["word"] (spV (pWord isName)) := by
  refine T.is_name.F.ok sc_is_name (fun vs H Q E h => ?_) (fun cdv A outer s H vs Q E hr h => ?_)
  · obtain ⟨z, ⟨p, b, rfl, _⟩, _⟩ := h
    rfl
  · obtain ⟨z, ⟨p, b, rfl, hp, hb, hl, rfl⟩, k⟩ := h
    refine ⟨_, (pss_cons (ps_if (PW.pt (pw_or (pt_cmpR op_gt (pe_callB call_len_seq (by rfl) T.b_len (by decide +kernel) (pa_cons (pv 0) pa_nil)) pe_int (nomark _)) (pw_or1 (pt_not (pt_val (pe_call (ok_is_small_letter T) (hr.mono (by decide)) (by rfl) T.is_small_letter.g T.is_small_letter.F.kp T.is_small_letter.b .nil pass0 (pa_cons (pe_ix ix_list (pv 0) pe_int (fun _ _ => rfl)) pa_nil)))))))
    (pss_one (ps_ret pe_bl)) pss_nil)
    (pss_cons (ps_for PassesOwn.never rfl (pi_list (pv 0)) (pg_name (i := 1) sc_is_name.nd rfl (Or.inl rfl))
    (pss_one (ps_if (PW.pt (pw_and (pt_not (pt_val (pe_call (ok_is_small_letter T) (hr.mono (by decide)) (by rfl) T.is_small_letter.g T.is_small_letter.F.kp T.is_small_letter.b .nil pass0 (pa_cons (pv 1) pa_nil)))) (pw_and1 (pt_not (pt_val (pe_call (ok_is_digit T) (hr.mono (by decide)) (by rfl) T.is_digit.g T.is_digit.F.kp T.is_digit.b .nil pass0 (pa_cons (pv 1) pa_nil)))))))
    (pss_one (ps_ret pe_bl)) pss_nil)))
    (pss_one (ps_ret pe_bl)))), ?_⟩
    have pos : 0 < b.length := List.length_pos_iff.mpr hb
    refine q_when (b := decide (12 < b.length) || !small (b.getD 0 0)) (et_or (et_is (et_test (ev_i (ev_len (ev_var rfl) (SqL.of hp)) ev_c)) (by rw [byV_len]; exact decide_eq_decide.mpr (by omega))) fun _ => et_not (et_B (ev_call (ea_cons (ev_ixL (j := 0) (ev_var rfl) ev_c (SqL.of hp) rfl (byV_get pos)) ea_nil) (sv_of fun _ _ => ⟨b.getD 0 0, rfl, rfl⟩)))) (fun hc H1 e1 => ?_) (fun hc H1 e1 => ?_)
    · have : isName b = false := by
        unfold isName
        rw [hc]
        rfl
      rw [this] at k
      exact s_ret ev_c fun H2 e2 => k H2 (e1.trans e2)
    · have hn : isName b = b.all part := by
        unfold isName
        rw [hc]
        rfl
      rw [hn] at k
      refine q_forLn (ev_var rfl) (SqL.of (e1 _ _ hp)) (fun i σ' H' => ∃ o, σ' = [some (.ref p), o] ∧ Ex H H' ∧ (b.take i).all part = true) (fun H2 e2 => ⟨none, rfl, e1.trans e2, rfl⟩) (fun i σ' H' _ hP => ?_) (fun i x σ' H' hi hP => ?_) (fun σ' H' hP => ?_)
      · obtain ⟨o, _, e, _⟩ := hP
        exact SqL.of (e _ _ hp)
      · obtain ⟨o, rfl, e, hz⟩ := hP
        obtain ⟨c, hc2, rfl⟩ := byV_at hi
        refine s_when (et_and (et_not (et_B (ev_call (ea_cons (ev_var rfl) ea_nil) (sv_of fun _ _ => ⟨c, rfl, rfl⟩)))) fun _ => et_not (et_B (ev_call (ea_cons (ev_var rfl) ea_nil) (sv_of fun _ _ => ⟨c, rfl, rfl⟩)))) (fun hc3 H2 e2 => ?_) (fun hc3 H2 e2 => ?_)
        · have : b.all part = false := by
            rw [List.all_eq_false]
            refine ⟨c, List.mem_of_getElem? hc2, ?_⟩
            unfold Mu07.part
            cases h1 : small c <;> cases h2 : digit c <;> rw [h1, h2] at hc3 <;> first | (cases hc3; done) | simp
          rw [this] at k
          exact s_ret ev_c fun H3 e3 => k H3 ((e.trans e2).trans e3)
        · refine ⟨some (.int c), rfl, e.trans e2, ?_⟩
          rw [take_more hc2, List.all_append, hz]
          simp only [List.all_cons, List.all_nil, Bool.and_true, Bool.true_and]
          unfold Mu07.part
          cases h1 : small c <;> cases h2 : digit c <;> rw [h1, h2] at hc3 <;> first | (cases hc3; done) | rfl
      · obtain ⟨o, rfl, e, hz⟩ := hP
        rw [byV_len, List.take_length] at hz
        rw [hz] at k
        exact s_ret ev_c fun H3 e3 => k H3 (e.trans e3)
theorem ok_is_number : FnOk P w K mg base CX0 2 T.is_number.f T.is_number.fd ["word"] (spV (pWord isNumber)) := by
  refine T.is_number.F.ok sc_is_number (fun vs H Q E h => ?_) (fun cdv A outer s H vs Q E hr h => ?_)
  · obtain ⟨z, ⟨p, b, rfl, _⟩, _⟩ := h
    rfl
  · obtain ⟨z, ⟨p, b, rfl, hp, hb, hl, rfl⟩, k⟩ := h
    refine ⟨_, (pss_cons (ps_if (PW.pt (pw_or (pt_cmpR op_gt (pe_callB call_len_seq (by rfl) T.b_len (by decide +kernel) (pa_cons (pv 0) pa_nil)) pe_int (nomark _)) (pw_or1 (PW.pt (pw_and (pt_cmpR op_gt (pe_callB call_len_seq (by rfl) T.b_len (by decide +kernel) (pa_cons (pv 0) pa_nil)) pe_int (nomark _)) (pw_and1 (pt_cmpR op_eq (pe_ix ix_list (pv 0) pe_int (fun _ _ => rfl)) pe_int (nomark _))))))))
    (pss_one (ps_ret pe_bl)) pss_nil)
    (pss_cons (ps_for PassesOwn.never rfl (pi_list (pv 0)) (pg_name (i := 1) sc_is_number.nd rfl (Or.inl rfl))
    (pss_one (ps_if (pt_not (pt_val (pe_call (ok_is_digit T) (hr.mono (by decide)) (by rfl) T.is_digit.g T.is_digit.F.kp T.is_digit.b .nil pass0 (pa_cons (pv 1) pa_nil))))
    (pss_one (ps_ret pe_bl)) pss_nil)))
    (pss_one (ps_ret pe_bl)))), ?_⟩
    have pos : 0 < b.length := List.length_pos_iff.mpr hb
    refine q_when (b := decide (9 < b.length) || (decide (1 < b.length) && (b.getD 0 0 == 48))) (et_or (et_is (et_test (ev_i (ev_len (ev_var rfl) (SqL.of hp)) ev_c)) (by rw [byV_len]; exact decide_eq_decide.mpr (by omega))) fun _ =>
      et_and (et_is (et_test (ev_i (ev_len (ev_var rfl) (SqL.of hp)) ev_c)) (by rw [byV_len]; exact decide_eq_decide.mpr (by omega))) fun _ => et_is (et_test (ev_eqI (ev_ixL (j := 0) (ev_var rfl) ev_c (SqL.of hp) rfl (byV_get pos)) ev_c)) (by
        by_cases h48 : b.getD 0 0 = 48
        · rw [h48]; rfl
        · have a1 : (b.getD 0 0 == 48) = false := by simpa using h48
          have a2 : (((b.getD 0 0 : Nat) : Int) == 48) = false := by
            have : ¬ ((b.getD 0 0 : Nat) : Int) = 48 := by omega
            simpa using this
          rw [a1, a2])) (fun hc H1 e1 => ?_) (fun hc H1 e1 => ?_)
    · have : isNumber b = false := by
        unfold isNumber
        rw [hc]
        rfl
      rw [this] at k
      exact s_ret ev_c fun H2 e2 => k H2 (e1.trans e2)
    · have hn : isNumber b = b.all digit := by
        unfold isNumber
        rw [hc]
        rfl
      rw [hn] at k
      refine q_forLn (ev_var rfl) (SqL.of (e1 _ _ hp)) (fun i σ' H' => ∃ o, σ' = [some (.ref p), o] ∧ Ex H H' ∧ (b.take i).all digit = true) (fun H2 e2 => ⟨none, rfl, e1.trans e2, rfl⟩) (fun i σ' H' _ hP => ?_) (fun i x σ' H' hi hP => ?_) (fun σ' H' hP => ?_)
      · obtain ⟨o, _, e, _⟩ := hP
        exact SqL.of (e _ _ hp)
      · obtain ⟨o, rfl, e, hz⟩ := hP
        obtain ⟨c, hc2, rfl⟩ := byV_at hi
        refine s_when (et_not (et_B (ev_call (ea_cons (ev_var rfl) ea_nil) (sv_of fun _ _ => ⟨c, rfl, rfl⟩)))) (fun hc3 H2 e2 => ?_) (fun hc3 H2 e2 => ?_)
        · have : b.all digit = false := by
            rw [List.all_eq_false]
            exact ⟨c, List.mem_of_getElem? hc2, by simpa using hc3⟩
          rw [this] at k
          exact s_ret ev_c fun H3 e3 => k H3 ((e.trans e2).trans e3)
        · refine ⟨some (.int c), rfl, e.trans e2, ?_⟩
          rw [take_more hc2, List.all_append, hz]
          simp only [List.all_cons, List.all_nil, Bool.and_true, Bool.true_and]
          simpa using hc3
      · obtain ⟨o, rfl, e, hz⟩ := hP
        rw [byV_len, List.take_length] at hz
        rw [hz] at k
        exact s_ret ev_c fun H3 e3 => k H3 (e.trans e3)
def pNumberOf : List V → Hp → V → Prop := fun vs H z => ∃ (p : Addr) (b : Bytes), vs = [.ref p] ∧ H p = some (.lst (byV b)) ∧ b.all digit = true ∧ b.length ≤ 4000 ∧ z = .int (numberOf b : Nat)
theorem number_more {b : Bytes} {i c : Nat} (h : b[i]? = some c) : numberOf (b.take (i + 1)) = 10 * numberOf (b.take i) + (c - 48) := by
  unfold numberOf
  rw [take_more h, List.foldl_append]
  rfl
theorem ok_number_of : FnOk P w K mg base CX0 1 T.number_of.f T.number_of.fd ["word"] (spV pNumberOf) := by
  refine T.number_of.F.ok sc_number_of (fun vs H Q E h => ?_) (fun cdv A outer s H vs Q E hr h => ?_)
  · obtain ⟨z, ⟨p, b, rfl, _⟩, _⟩ := h
    rfl
  · obtain ⟨z, ⟨p, b, rfl, hp, hb, hl, rfl⟩, k⟩ := h
    refine ⟨_, (pss_cons (ps_set (i := 1) sc_number_of.nd rfl (Or.inl rfl) pe_int)
    (pss_cons (ps_for PassesOwn.never rfl (pi_list (pv 0)) (pg_name (i := 2) sc_number_of.nd rfl (Or.inl rfl))
    (pss_one (ps_set (i := 1) sc_number_of.nd rfl (Or.inl rfl) (pe_op op_sub (pe_op op_add (pe_op op_mul pe_int (pv 1)) (pv 2)) pe_int))))
    (pss_one (ps_ret (pv 1))))), ?_⟩
    refine q_asg ev_c fun H1 e1 => ?_
    refine q_forLn (ev_var rfl) (SqL.of (e1 _ _ hp)) (fun i σ' H' => ∃ o, σ' = [some (.ref p), some (.int (numberOf (b.take i) : Nat)), o] ∧ Ex H H') (fun H2 e2 => ⟨none, rfl, e1.trans e2⟩) (fun i σ' H' _ hP => ?_) (fun i x σ' H' hi hP => ?_) (fun σ' H' hP => ?_)
    · obtain ⟨o, _, e⟩ := hP
      exact SqL.of (e _ _ hp)
    · obtain ⟨o, rfl, e⟩ := hP
      obtain ⟨c, hc, rfl⟩ := byV_at hi
      have dc : digit c = true := List.all_eq_true.mp hb c (List.mem_of_getElem? hc)
      have d48 : 48 ≤ c := by
        unfold digit at dc
        rw [Bool.and_eq_true] at dc
        exact of_decide_eq_true dc.1
      have em : (10 : Int) * ((numberOf (b.take i) : Nat) : Int) + (c : Int) - 48 = ((numberOf (b.take (i + 1)) : Nat) : Int) := by
        rw [number_more hc]
        omega
      refine s_asg (ev_is (ev_i (ev_i (ev_iC ev_c (ev_var rfl) (.inl ⟨by decide, by decide⟩)) (ev_var rfl)) ev_c) (congrArg V.int em)) fun H2 e2 => ⟨some (.int c), rfl, e.trans e2⟩
    · obtain ⟨o, rfl, e⟩ := hP
      rw [byV_len, List.take_length]
      exact s_ret (ev_var rfl) fun H3 e3 => k H3 (e.trans e3)
end
end Cw

/-! The walk through words: lists of words. -/
namespace Cw
open PySem PySem.Spec PyProof.Rows L2 Evl
open Mu07 (Bytes small digit part numberOf)
theorem hu65 {A : Around} {k : Nat} (hr : Room k A) : A.units + 65 < cLine := by
  have := hr.un
  omega
theorem zV_by (b : List Nat) : zV (byZ b) = byV b := (byV_z b).symm
theorem RowsAt.word {H : Hp} {qs : List Addr} {ws : List (List Nat)} (h : RowsAt H qs (ws.map byZ)) {i : Nat} {a : Addr} {w : List Nat} (ha : qs[i]? = some a) (hw : ws[i]? = some w) : H a = some (.lst (byV w)) := by
  rw [← zV_by]
  exact h.at_ i a (byZ w) ha (by rw [List.getElem?_map, hw]; rfl)
theorem RowsAt.wlen {H : Hp} {qs : List Addr} {ws : List (List Nat)} (h : RowsAt H qs (ws.map byZ)) : qs.length = ws.length := by rw [h.len, List.length_map]
theorem RowsAt.but {H H' : Hp} {qs : List Addr} {rows : List (List Int)} {b : Addr} (h : RowsAt H qs rows) (hb : b ∉ qs) (e : ExB b H H') : RowsAt H' qs rows := ⟨h.len, fun i a r x y => e _ _ (fun z => hb (z ▸ List.mem_of_getElem? x)) (h.at_ i a r x y)⟩
theorem RowsAt.snoc {H : Hp} {qs : List Addr} {rows : List (List Int)} {a : Addr} {r : List Int} (h : RowsAt H qs rows) (ha : H a = some (.lst (zV r))) : RowsAt H (qs ++ [a]) (rows ++ [r]) := by
  refine ⟨by simp [h.len], fun i b q hb hq => ?_⟩
  by_cases hi : i < qs.length
  · rw [List.getElem?_append_left hi] at hb
    rw [List.getElem?_append_left (by rw [← h.len]; exact hi)] at hq
    exact h.at_ i b q hb hq
  · rw [List.getElem?_append_right (by omega)] at hb
    rw [List.getElem?_append_right (by rw [← h.len]; omega), ← h.len] at hq
    cases z : i - qs.length with
    | zero =>
      rw [z] at hb hq
      simp at hb hq
      rw [← hb, ← hq]
      exact ha
    | succ n =>
      rw [z] at hb
      simp at hb
theorem refV_app (a b : List Addr) : refV (a ++ b) = refV a ++ refV b := List.map_append
/-- words that stand, none empty -/
structure WordsAt (H : Hp) (p : Addr) (qs : List Addr) (ws : List (List Nat)) : Prop where
  l : H p = some (.lst (refV qs))
  r : RowsAt H qs (ws.map byZ)
  ne : ∀ w ∈ ws, w ≠ [] ∧ w.length ≤ 4000
  few : ws.length ≤ 4001
theorem WordsAt.ex {H H' : Hp} {p : Addr} {qs : List Addr} {ws : List (List Nat)} (h : WordsAt H p qs ws) (e : Ex H H') : WordsAt H' p qs ws := ⟨e _ _ h.l, h.r.ex e, h.ne, h.few⟩
theorem WordsAt.len {H : Hp} {p : Addr} {qs : List Addr} {ws : List (List Nat)} (h : WordsAt H p qs ws) : qs.length = ws.length := h.r.wlen
theorem WordsAt.get {H : Hp} {p : Addr} {qs : List Addr} {ws : List (List Nat)} (h : WordsAt H p qs ws) {i : Nat} (hi : i < ws.length) : ∃ a, qs[i]? = some a ∧ H a = some (.lst (byV (ws.getD i []))) ∧ ws.getD i [] ≠ [] ∧ (ws.getD i []).length ≤ 4000 := by
  have h2 : i < qs.length := by rw [h.len]; exact hi
  have hw : ws[i]? = some (ws.getD i []) := by rw [getD_get hi]; exact List.getElem?_eq_getElem hi
  obtain ⟨a, b⟩ := h.ne _ (List.mem_of_getElem? hw)
  exact ⟨qs[i], List.getElem?_eq_getElem h2, h.r.word (List.getElem?_eq_getElem h2) hw, a, b⟩
def canBe (ws : List Bytes) : Bool := ws.all fun w => isName w || isNumber w
/-- behind the first word just a name for each n (110), a number for each 9 (57) -/
def formOk (ws : List Bytes) (f : List Nat) : Bool := decide (ws.length = f.length + 1) && (List.range f.length).all fun i => !(f.getD i 0 == 110 && !isName (ws.getD (i + 1) [])) && !(f.getD i 0 == 57 && !isNumber (ws.getD (i + 1) []))
section
variable {P : Program} {w : World} {K : PySem.W.Frag} {mg : Str → Option Value} {base : Heap} (T : Txt K mg)
def pCanBe : List V → Hp → V → Prop := fun vs H z => ∃ (p : Addr) (qs : List Addr) (ws : List Bytes), vs = [.ref p] ∧ WordsAt H p qs ws ∧ z = .bl (canBe ws)
theorem ok_words_can_be : FnOk P w K mg base CX0 3 T.words_can_be.f T.words_can_be.fd ["words"] (spV pCanBe) := by
  refine T.words_can_be.F.ok sc_words_can_be (fun vs H Q E h => ?_) (fun cdv A outer s H vs Q E hr h => ?_)
  · obtain ⟨z, ⟨p, qs, ws, rfl, _⟩, _⟩ := h
    rfl
  · obtain ⟨z, ⟨p, qs, ws, rfl, hW, rfl⟩, k⟩ := h
    refine ⟨_, (pss_cons (ps_for PassesOwn.never rfl (pi_list (pv 0)) (pg_name (i := 1) sc_words_can_be.nd rfl (Or.inl rfl))
    (pss_one (ps_if (PW.pt (pw_and (pt_not (pt_val (pe_call (ok_is_name T) (hr.mono (by decide)) (by rfl) T.is_name.g T.is_name.F.kp T.is_name.b .nil pass0 (pa_cons (pv 1) pa_nil)))) (pw_and1 (pt_not (pt_val (pe_call (ok_is_number T) (hr.mono (by decide)) (by rfl) T.is_number.g T.is_number.F.kp T.is_number.b .nil pass0 (pa_cons (pv 1) pa_nil)))))))
    (pss_one (ps_ret pe_bl)) pss_nil)))
    (pss_one (ps_ret pe_bl))), ?_⟩
    refine q_forLn (ev_var rfl) (SqL.of hW.l) (fun i σ' H' => ∃ o, σ' = [some (.ref p), o] ∧ Ex H H' ∧ canBe (ws.take i) = true) (fun H2 e2 => ⟨none, rfl, e2, rfl⟩) (fun i σ' H' _ hP => ?_) (fun i x σ' H' hi hP => ?_) (fun σ' H' hP => ?_)
    · obtain ⟨o, _, e, _⟩ := hP
      exact SqL.of (e _ _ hW.l)
    · obtain ⟨o, rfl, e, hz⟩ := hP
      obtain ⟨a, ha, rfl⟩ := refV_at hi
      have hi' : i < ws.length := by rw [← hW.len]; exact lt_of_get ha
      obtain ⟨a', ha', hb, hne, hl⟩ := hW.get hi'
      rw [ha] at ha'
      cases ha'
      have hw : ws[i]? = some (ws.getD i []) := by rw [getD_get hi']; exact List.getElem?_eq_getElem hi'
      refine s_when (et_and (et_not (et_B (ev_call (ea_cons (ev_var rfl) ea_nil) (sv_of fun H2 e2 => ⟨a, ws.getD i [], rfl, (e.trans e2) _ _ hb, hne, hl, rfl⟩)))) fun _ => et_not (et_B (ev_call (ea_cons (ev_var rfl) ea_nil) (sv_of fun H2 e2 => ⟨a, ws.getD i [], rfl, (e.trans e2) _ _ hb, hne, hl, rfl⟩)))) (fun hc H2 e2 => ?_) (fun hc H2 e2 => ?_)
      · have : canBe ws = false := by
          unfold canBe
          rw [List.all_eq_false]
          refine ⟨_, List.mem_of_getElem? hw, ?_⟩
          cases h1 : isName (ws.getD i []) <;> cases h2 : isNumber (ws.getD i []) <;> rw [h1, h2] at hc <;> first | (cases hc; done) | simp
        rw [this] at k
        exact s_ret ev_c fun H3 e3 => k H3 ((e.trans e2).trans e3)
      · refine ⟨some (.ref a), rfl, e.trans e2, ?_⟩
        unfold canBe at hz ⊢
        rw [take_more hw, List.all_append, hz]
        simp only [List.all_cons, List.all_nil, Bool.and_true, Bool.true_and]
        cases h1 : isName (ws.getD i []) <;> cases h2 : isNumber (ws.getD i []) <;> rw [h1, h2] at hc <;> first | (cases hc; done) | rfl
    · obtain ⟨o, rfl, e, hz⟩ := hP
      rw [refV_len, hW.len, List.take_length] at hz
      rw [hz] at k
      exact s_ret ev_c fun H3 e3 => k H3 (e.trans e3)
theorem ev_lenStr {σ : L2.St} {H : Hp} {ta : TE} {z : Str} (ha : Ev ta σ H (.str z)) (h : z.length ≤ 100000) : Ev (tCB (fun xs H Q => ∃ x, xs = [.str x] ∧ x.length ≤ sizeLine ∧ Q (.int (x.length : Int)) H) (tCons ta tNil)) σ H (.int (z.length : Int)) := fun H1 e Q q =>
  ha H1 e _ fun H2 e2 => ⟨z, rfl, sz_of h, q H2 e2⟩
theorem rv_sign {H : Hp} {c d : Nat} {z : Str} (hz : z = ⟨#[d]⟩) : RV rEq (.str ⟨#[c]⟩) (.str z) H (.bl (c == d)) := fun H1 e Q q => by
  have h := rv_eq (x := .str ⟨#[c]⟩) (y := .str z) (H := H) rfl H1 e Q
  have e2 : decide (V.str ⟨#[c]⟩ = V.str z) = (c == d) := by
    subst hz
    by_cases h : c = d
    · subst h
      simp
    · have : ¬ V.str ⟨#[c]⟩ = V.str ⟨#[d]⟩ := fun y => by
        injection y with y
        injection y with y
        have y2 := congrArg Array.toList y
        simp at y2
        exact h y2
      rw [decide_eq_false this]
      have : (c == d) = false := by simpa using h
      rw [this]
  rw [e2] at h
  exact h q
def pForm : List V → Hp → V → Prop := fun vs H z => ∃ (p : Addr) (qs : List Addr) (ws : List Bytes) (f : Str), vs = [.ref p, .str f] ∧ WordsAt H p qs ws ∧ f.cps.size ≤ 5000 ∧ z = .bl (formOk ws f.cps.toList)
theorem ok_form_holds : FnOk P w K mg base CX0 3 T.form_holds.f T.form_holds.fd ["words", "form"] (spV pForm) := by
  refine T.form_holds.F.ok sc_form_holds (fun vs H Q E h => ?_) (fun cdv A outer s H vs Q E hr h => ?_)
  · obtain ⟨z, ⟨p, qs, ws, f, rfl, _⟩, _⟩ := h
    rfl
  · obtain ⟨z, ⟨p, qs, ws, f, rfl, hW, hf, rfl⟩, k⟩ := h
    refine ⟨_, (pss_cons (ps_if (pt_cmpR op_ne (pe_callB call_len_seq (by rfl) T.b_len (by decide +kernel) (pa_cons (pv 0) pa_nil)) (pe_op op_add (pe_callB call_len_str (by rfl) T.b_len (by decide +kernel) (pa_cons (pv 1) pa_nil)) pe_int) (nomark _))
    (pss_one (ps_ret pe_bl)) pss_nil)
    (pss_cons (ps_for PassesOwn.never rfl (pi_range1 (by rfl) T.b_range (pa_cons (pe_callB call_len_str (by rfl) T.b_len (by decide +kernel) (pa_cons (pv 1) pa_nil)) pa_nil)) (pg_name (i := 2) sc_form_holds.nd rfl (Or.inl rfl))
    (pss_cons (ps_if (PW.pt (pw_and (pt_cmpR op_eq (pe_ix ix_str (pv 1) (pv 2) (fun _ _ => rfl)) pe_str (nomark _)) (pw_and1 (pt_not (pt_val (pe_call (ok_is_name T) (hr.mono (by decide)) (by rfl) T.is_name.g T.is_name.F.kp T.is_name.b .nil pass0 (pa_cons (pe_ix ix_list (pv 0) (pe_op op_add (pv 2) pe_int) (fun _ _ => rfl)) pa_nil)))))))
    (pss_one (ps_ret pe_bl)) pss_nil)
    (pss_one (ps_if (PW.pt (pw_and (pt_cmpR op_eq (pe_ix ix_str (pv 1) (pv 2) (fun _ _ => rfl)) pe_str (nomark _)) (pw_and1 (pt_not (pt_val (pe_call (ok_is_number T) (hr.mono (by decide)) (by rfl) T.is_number.g T.is_number.F.kp T.is_number.b .nil pass0 (pa_cons (pe_ix ix_list (pv 0) (pe_op op_add (pv 2) pe_int) (fun _ _ => rfl)) pa_nil)))))))
    (pss_one (ps_ret pe_bl)) pss_nil))))
    (pss_one (ps_ret pe_bl)))), ?_⟩
    have fl : f.length = f.cps.toList.length := by rw [Array.length_toList]; rfl
    have fsz : f.cps.toList.length ≤ 5000 := by rw [Array.length_toList]; exact hf
    generalize hfl : f.cps.toList = fs at *
    refine q_when (b := !decide (ws.length = fs.length + 1)) (et_is (et_test (ev_neI (ev_len (ev_var rfl) (SqL.of hW.l)) (ev_i (ev_lenStr (ev_var rfl) (by omega)) ev_c))) (by
      rw [refV_len, hW.len, fl]
      by_cases h : ws.length = fs.length + 1
      · rw [h]
        have : (((fs.length + 1 : Nat) : Int) == ((fs.length : Nat) : Int) + 1) = true := by simp
        rw [this]
        simp
      · rw [decide_eq_false h]
        have : (((ws.length : Nat) : Int) == ((fs.length : Nat) : Int) + 1) = false := by
          have : ¬ ((ws.length : Nat) : Int) = ((fs.length : Nat) : Int) + 1 := by omega
          simpa using this
        rw [this])) (fun hc H1 e1 => ?_) (fun hc H1 e1 => ?_)
    · have : formOk ws fs = false := by
        unfold formOk
        rw [Bool.not_eq_true'] at hc
        rw [hc]
        rfl
      rw [this] at k
      exact s_ret ev_c fun H2 e2 => k H2 (e1.trans e2)
    · have hlen : ws.length = fs.length + 1 := by simpa using hc
      let test : Nat → Bool := fun i => !(fs.getD i 0 == 110 && !isName (ws.getD (i + 1) [])) && !(fs.getD i 0 == 57 && !isNumber (ws.getD (i + 1) []))
      have fo : formOk ws fs = (List.range fs.length).all test := by
        unfold formOk
        rw [decide_eq_true hlen]
        rfl
      rw [fo] at k
      refine q_forR1 (n := (fs.length : Int)) (ea_cons (ev_is (ev_lenStr (ev_var rfl) (by omega)) (by rw [fl])) ea_nil) ⟨by omega, by omega⟩
        (fun i σ' H' => ∃ o, σ' = [some (.ref p), some (.str f), o] ∧ Ex H H' ∧ (List.range i).all test = true) (fun H2 e2 => ⟨none, rfl, e1.trans e2, rfl⟩) (fun i σ' H' hi hP => ?_) (fun σ' H' hP => ?_)
      · obtain ⟨o, rfl, e, hz⟩ := hP
        have hi' : i < fs.length := by omega
        obtain ⟨a, ha, hb, hne, hl⟩ := hW.get (i := i + 1) (by omega)
        have hcode : atI f.cps.toList (i : Int) = some (fs.getD i 0) := by
          rw [hfl]
          exact atI_nat (by rw [getD_get hi']; exact List.getElem?_eq_getElem hi')
        have ei : (i : Int) + 1 = ((i + 1 : Nat) : Int) := by omega
        have bad : test i = false → ∀ H3, Ex H H3 → Q (.bl false) H3 := fun hb H3 e3 => by
          have : (List.range fs.length).all test = false := by
            rw [List.all_eq_false]
            exact ⟨i, by simpa using hi', by rw [hb]; decide⟩
          rw [this] at k
          exact k H3 e3
        refine q_when (b := (fs.getD i 0 == 110) && !isName (ws.getD (i + 1) [])) (et_and (et_test (ev_op (ev_op (ev_var rfl) (ev_var rfl) (rv_ixS (by omega) hcode)) ev_c (rv_sign (by decide +kernel)))) fun _ => et_not (et_B (ev_call (ea_cons (ev_ixL (j := i + 1) (ev_var rfl) (ev_i (ev_var rfl) ev_c) (SqL.of (e _ _ hW.l)) ei (refV_get ha)) ea_nil) (sv_of fun H2 e2 => ⟨a, ws.getD (i + 1) [], rfl, (e.trans e2) _ _ hb, hne, hl, rfl⟩)))) (fun hc H2 e2 => ?_) (fun hc H2 e2 => ?_)
        · have : test i = false := by
            show (!(fs.getD i 0 == 110 && !isName (ws.getD (i + 1) [])) && !(fs.getD i 0 == 57 && !isNumber (ws.getD (i + 1) []))) = false
            rw [hc]
            rfl
          exact s_ret ev_c fun H3 e3 => bad this H3 ((e.trans e2).trans e3)
        · have e02 := e.trans e2
          refine s_when (b := (fs.getD i 0 == 57) && !isNumber (ws.getD (i + 1) [])) (et_and (et_test (ev_op (ev_op (ev_var rfl) (ev_var rfl) (rv_ixS (by omega) hcode)) ev_c (rv_sign (by decide +kernel)))) fun _ => et_not (et_B (ev_call (ea_cons (ev_ixL (j := i + 1) (ev_var rfl) (ev_i (ev_var rfl) ev_c) (SqL.of (e02 _ _ hW.l)) ei (refV_get ha)) ea_nil) (sv_of fun H3 e3 => ⟨a, ws.getD (i + 1) [], rfl, (e02.trans e3) _ _ hb, hne, hl, rfl⟩)))) (fun hc2 H3 e3 => ?_) (fun hc2 H3 e3 => ?_)
          · have : test i = false := by
              show (!(fs.getD i 0 == 110 && !isName (ws.getD (i + 1) [])) && !(fs.getD i 0 == 57 && !isNumber (ws.getD (i + 1) []))) = false
              rw [hc, hc2]
              rfl
            exact s_ret ev_c fun H4 e4 => bad this H4 ((e02.trans e3).trans e4)
          · refine ⟨some (.int i), rfl, e02.trans e3, ?_⟩
            rw [List.range_succ, List.all_append, hz]
            simp only [List.all_cons, List.all_nil, Bool.and_true, Bool.true_and]
            show (!(fs.getD i 0 == 110 && !isName (ws.getD (i + 1) [])) && !(fs.getD i 0 == 57 && !isNumber (ws.getD (i + 1) []))) = true
            rw [hc, hc2]
            rfl
      · obtain ⟨o, rfl, e, hz⟩ := hP
        have et : ((fs.length : Int)).toNat = fs.length := by omega
        rw [et] at hz
        rw [hz] at k
        exact s_ret ev_c fun H3 e3 => k H3 (e.trans e3)
end
end Cw

/-! The walk through words: a text split, kept words. -/
namespace Cw
open PySem PySem.Spec PyProof.Rows L2 Evl
open Mu07 (Bytes small digit part numberOf)
/-- the pieces between bytes c -/
def splitB (c : Nat) : List Nat → List (List Nat)
  | [] => [[]]
  | x :: r => if x = c then [] :: splitB c r else match splitB c r with
    | [] => [[x]]
    | l :: m => (x :: l) :: m
theorem splitB_ne (c : Nat) : ∀ t, splitB c t ≠ []
  | [] => by simp [splitB]
  | x :: r => by
    unfold splitB
    split
    · simp
    · split <;> simp
/-- in front of the first piece -/
def pre (cur : List Nat) : List (List Nat) → List (List Nat)
  | [] => [cur]
  | l :: m => (cur ++ l) :: m
theorem pre_nil {l : List (List Nat)} (h : l ≠ []) : pre [] l = l := by
  cases l with
  | nil => exact absurd rfl h
  | cons a r => rfl
theorem pre_cons (c x : Nat) (cur r : List Nat) (h : x ≠ c) : pre cur (splitB c (x :: r)) = pre (cur ++ [x]) (splitB c r) := by
  have e : splitB c (x :: r) = (match splitB c r with | [] => [[x]] | l :: m => (x :: l) :: m) := by
    show (if x = c then [] :: splitB c r else _) = _
    rw [if_neg h]
  rw [e]
  cases hs : splitB c r with
  | nil => exact absurd hs (splitB_ne c r)
  | cons l m => simp [pre]
theorem pre_cut (c : Nat) (cur r : List Nat) : pre cur (splitB c (c :: r)) = cur :: splitB c r := by
  have e : splitB c (c :: r) = [] :: splitB c r := if_pos rfl
  rw [e]
  simp [pre]
theorem split_len (c : Nat) : ∀ t, (splitB c t).length ≤ t.length + 1
  | [] => by simp [splitB]
  | x :: r => by
    have ih := split_len c r
    unfold splitB
    split
    · simp
      omega
    · split
      · simp
      · rename_i l m hs
        rw [hs] at ih
        simp at ih ⊢
        omega
theorem split_sz (c : Nat) : ∀ t, ∀ p ∈ splitB c t, p.length ≤ t.length
  | [], p, h => by
    have : p = [] := by simpa [splitB] using h
    rw [this]
    simp
  | x :: r, p, h => by
    have ih := split_sz c r
    unfold splitB at h
    split at h
    · rcases List.mem_cons.mp h with rfl | m
      · simp
      · have := ih p m
        simp
        omega
    · split at h
      · have : p = [x] := by simpa using h
        rw [this]
        simp
      · rename_i l m hs
        rcases List.mem_cons.mp h with rfl | mm
        · have := ih l (by rw [hs]; simp)
          simp
          omega
        · have := ih p (by rw [hs]; exact List.mem_cons_of_mem _ mm)
          simp
          omega
/-- the words of a line -/
def wordsB (l : List Nat) : List (List Nat) := (splitB 32 l).filter fun w => decide (0 < w.length)
section
variable {P : Program} {w : World} {K : PySem.W.Frag} {mg : Str → Option Value} {base : Heap} (T : Txt K mg)
def pSplit (K : PySem.W.Frag) : List V → Hp → List (List Nat) → Prop := fun vs H rows => ∃ (p : Addr) (t : List Nat) (c : Nat), vs = [.ref p, .int c] ∧ SqL K H p (byV t) ∧ t.length ≤ 4000 ∧ rows = splitB c t
theorem ok_split_at : FnOk P w K mg base CX0 1 T.split_at.f T.split_at.fd ["text", "byte"] (spLL (pSplit K)) := by
  refine T.split_at.F.ok sc_split_at (fun vs H Q E h => ?_) (fun cdv A outer s H vs Q E hr h => ?_)
  · obtain ⟨z, ⟨p, t, c, rfl, _⟩, _⟩ := h
    rfl
  · obtain ⟨z, ⟨p, t, c, rfl, hp, ht, rfl⟩, k⟩ := h
    refine ⟨_, (pss_cons (ps_set (i := 2) sc_split_at.nd rfl (Or.inl rfl) (pe_lst pa_nil))
    (pss_cons (ps_set (i := 3) sc_split_at.nd rfl (Or.inl rfl) (pe_lst pa_nil))
    (pss_cons (ps_for PassesOwn.never rfl (pi_list (pv 0)) (pg_name (i := 4) sc_split_at.nd rfl (Or.inl rfl))
    (pss_one (ps_if (pt_cmpR op_eq (pv 4) (pv 1) (nomark _))
    (pss_cons (ps_expr (pe_bm PySem.F.plainAttrs_list PySem.F.slot_list_append PySem.F.type_list_append mt_append (pv 2) (pa_cons (pv 3) pa_nil)))
    (pss_one (ps_set (i := 3) sc_split_at.nd rfl (Or.inl rfl) (pe_lst pa_nil)))) (pss_one (ps_expr (pe_bm PySem.F.plainAttrs_list PySem.F.slot_list_append PySem.F.type_list_append mt_append (pv 3) (pa_cons (pv 4) pa_nil)))))))
    (pss_cons (ps_expr (pe_bm PySem.F.plainAttrs_list PySem.F.slot_list_append PySem.F.type_list_append mt_append (pv 2) (pa_cons (pv 3) pa_nil)))
    (pss_one (ps_ret (pv 2))))))), ?_⟩
    refine q_asgL (el_lst ea_nil (Nat.zero_le _)) fun pl H1 npl e1 hpl => ?_
    refine q_asgL (el_lst ea_nil (Nat.zero_le _)) fun cp H2 ncp e2 hcp => ?_
    have e02 := e1.trans e2
    have ncp0 : H cp = none := fresh_back e1 ncp
    have hpl2 := e2 _ _ hpl
    have cne : cp ≠ pl := fun z => by
      rw [z, hpl] at ncp
      cases ncp
    refine q_forLn (ev_var rfl) (ex_l e02 hp) (fun i σ' H' => ∃ (cp : Addr) (o : Option V) (qs : List Addr) (ds : List (List Nat)) (cur : List Nat), σ' = [some (.ref p), some (.int c), some (.ref pl), some (.ref cp), o] ∧ Ex H H' ∧ H' pl = some (.lst (refV qs)) ∧ RowsAt H' qs (ds.map byZ) ∧ H' cp = some (.lst (byV cur)) ∧
      H cp = none ∧ (∀ q ∈ qs, H q = none) ∧ cp ≠ pl ∧ cp ∉ qs ∧ pl ∉ qs ∧ ds.length ≤ i ∧ cur.length ≤ i ∧ ∀ rest, splitB c (t.take i ++ rest) = ds ++ pre cur (splitB c rest))
      (fun H3 e3 => ⟨cp, none, [], [], [], rfl, e02.trans e3, e3 _ _ hpl2, ⟨rfl, fun i a r x => by simp at x⟩, e3 _ _ hcp, ncp0, fun q hq => by simp at hq, cne, by simp, by simp, Nat.zero_le _, Nat.zero_le _, fun rest => by rw [pre_nil (splitB_ne c rest)]; rfl⟩)
      (fun i σ' H' _ hP => ?_) (fun i x σ' H' hi hP => ?_) (fun σ' H' hP => ?_)
    · obtain ⟨cp, o, qs, ds, cur, _, e, _⟩ := hP
      exact ex_l e hp
    · obtain ⟨cp, o, qs, ds, cur, rfl, e, hpl', hR, hcp', n1, n2, c1, c2, c3, d1, d2, hS⟩ := hP
      obtain ⟨x, hx, rfl⟩ := byV_at hi
      have hil : i < t.length := lt_of_get hx
      have tk : ∀ rest, t.take (i + 1) ++ rest = t.take i ++ (x :: rest) := fun rest => by
        rw [take_more hx, List.append_assoc]
        rfl
      refine s_if (et_test (ev_eqI (ev_var rfl) (ev_var rfl))) (fun hb H3 e3 => ?_) (fun hb H3 e3 => ?_)
      · have hb : (x : Int) = c := beq_iff_eq.mp hb
        have xc : x = c := by omega
        subst xc
        refine q_app (K := K) (e3 _ _ hpl') (ev_var rfl) (ev_var rfl) (by rw [refV_len, hR.wlen]; omega) fun H4 e4 => ?_
        have b4 : ExB pl H3 (upd H4 pl (.lst (refV qs ++ [.ref cp]))) := (ExB.of e4).trans (ExB.upd pl H4 _)
        have npl0 : H pl = none := npl
        have hpl4 : (upd H4 pl (.lst (refV qs ++ [.ref cp]))) pl = some (.lst (refV (qs ++ [cp]))) := by
          rw [upd_same, refV_app]
          rfl
        generalize upd H4 pl (.lst (refV qs ++ [.ref cp])) = H5 at b4 hpl4
        have hcp5 := b4 _ _ c1 (e3 _ _ hcp')
        have e5 : Ex H H5 := ExB.ex (e.trans e3) npl0 b4
        refine s_asgL (el_lst ea_nil (Nat.zero_le _)) fun np H6 nnp e6 hnp => ?_
        have notin : np ∉ qs ++ [cp] := fun m => by
          rcases List.mem_append.mp m with m | m
          · obtain ⟨j, hj, rfl⟩ := List.mem_iff_getElem.mp m
            have hw : j < ds.length := by rw [← hR.wlen]; exact hj
            have := b4 _ _ (fun z => c3 (z ▸ List.getElem_mem hj)) (e3 _ _ (hR.word (List.getElem?_eq_getElem hj) (List.getElem?_eq_getElem hw)))
            rw [nnp] at this
            cases this
          · have : np = cp := by simpa using m
            rw [this, hcp5] at nnp
            cases nnp
        refine ⟨np, some (.int x), qs ++ [cp], ds ++ [cur], [], rfl, e5.trans e6, e6 _ _ hpl4, ?_, hnp, fresh_back e5 nnp, fun q hq => ?_, fun z => ?_, notin, fun m => ?_, by simp; omega, Nat.zero_le _, fun rest => ?_⟩
        · rw [List.map_append]
          refine RowsAt.ex (RowsAt.snoc (((hR.ex e3).but c3 b4)) ?_) e6
          rw [zV_by]
          exact hcp5
        · rcases List.mem_append.mp hq with m | m
          · exact n2 q m
          · have : q = cp := by simpa using m
            rw [this]
            exact n1
        · rw [z, hpl4] at nnp
          cases nnp
        · rcases List.mem_append.mp m with m | m
          · exact c3 m
          · have : pl = cp := by simpa using m
            exact c1 this.symm
        · rw [tk, hS, pre_cut, pre_nil (splitB_ne x rest)]
          simp
      · have hb : ¬ (x : Int) = c := by simpa using hb
        have xc : x ≠ c := fun z => hb (by omega)
        refine s_app (K := K) (e3 _ _ hcp') (ev_var rfl) (ev_var rfl) (by rw [byV_len]; omega) fun H4 e4 => ?_
        have b4 : ExB cp H3 (upd H4 cp (.lst (byV cur ++ [.int x]))) := (ExB.of e4).trans (ExB.upd cp H4 _)
        have hcp4 : (upd H4 cp (.lst (byV cur ++ [.int x]))) cp = some (.lst (byV (cur ++ [x]))) := by
          rw [upd_same, byV_app]
          rfl
        generalize upd H4 cp (.lst (byV cur ++ [.int x])) = H5 at b4 hcp4
        refine ⟨cp, some (.int x), qs, ds, cur ++ [x], rfl, ExB.ex (e.trans e3) n1 b4, b4 _ _ (Ne.symm c1) (e3 _ _ hpl'), (hR.ex e3).but c2 b4, hcp4, n1, n2, c1, c2, c3, by omega, by simp; omega, fun rest => ?_⟩
        rw [tk, hS, pre_cons c x cur rest xc]
    · obtain ⟨cp, o, qs, ds, cur, rfl, e, hpl', hR, hcp', n1, n2, c1, c2, c3, d1, d2, hS⟩ := hP
      rw [byV_len] at d1 d2
      have fin := hS []
      rw [byV_len, List.take_length, List.append_nil] at fin
      have fin2 : splitB c t = ds ++ [cur] := by
        rw [fin]
        congr 1
        show pre cur [[]] = [cur]
        simp [pre]
      rw [fin2] at k
      refine q_app (K := K) hpl' (ev_var rfl) (ev_var rfl) (by rw [refV_len, hR.wlen]; omega) fun H4 e4 => ?_
      have b4 : ExB pl H' (upd H4 pl (.lst (refV qs ++ [.ref cp]))) := (ExB.of e4).trans (ExB.upd pl H4 _)
      have hpl4 : (upd H4 pl (.lst (refV qs ++ [.ref cp]))) pl = some (.lst (refV (qs ++ [cp]))) := by
        rw [upd_same, refV_app]
        rfl
      generalize upd H4 pl (.lst (refV qs ++ [.ref cp])) = H5 at b4 hpl4
      refine s_ret (ev_var rfl) fun H6 e6 => k pl (qs ++ [cp]) H6 npl (fun q hq => ?_) ((ExB.ex e npl b4).trans e6) (e6 _ _ hpl4) ?_
      · rcases List.mem_append.mp hq with m | m
        · exact n2 q m
        · have : q = cp := by simpa using m
          rw [this]
          exact n1
      · rw [List.map_append]
        refine RowsAt.ex (RowsAt.snoc (hR.but c3 b4) ?_) e6
        rw [zV_by]
        exact b4 _ _ c1 hcp'
/-- [w for w in lists if p(w)] over a list of new lists -/
theorem ell_filter {σ : L2.St} {H : Hp} {tl : TE} {t : TT} {j : Nat} {vs : List Nat} {rows : List (List Nat)} (p : List Nat → Bool) (h : EvLL tl σ H rows) (hz : rows.length ≤ 40000) (hj : ∀ x, ((wipe σ vs).set j (some x))[j]? = some (some x)) (hw : ∀ x, wipe ((wipe σ vs).set j (some x)) vs = wipe σ vs)
    (ht : ∀ (a : Addr) (r : List Nat) H1, Ex H H1 → r ∈ rows → H1 a = some (.lst (byV r)) → EvT t ((wipe σ vs).set j (some (.ref a))) H1 (p r)) : EvLL (tLc (iList K tl) (gName j) t (tVar j) vs) σ H (rows.filter p) := fun H0 e Q q => h H0 e _ fun l qs H1 nl nq e1 hl hR => ⟨l, rfl, ⟨_, sq_of hl⟩, fun Dl hD => by
  have ql := hR.wlen
  let f : Nat → Bool := fun i => p (rows.getD i [])
  let v : Nat → V := fun i => .ref (qs.getD i 0)
  refine lc_list (xs := refV qs) (Cw H1 f v Dl) ⟨hD, Ex.new hD, upd_same⟩ (fun i H' _ c => sq_of (c.2.1 l _ hl)) (fun i x H' hi c => ⟨hw x, ?_⟩) (fun H' c => ?_)
  · obtain ⟨a, ha, rfl⟩ := refV_at hi
    have hi' : i < rows.length := by rw [← ql]; exact lt_of_get ha
    have hr : rows[i]? = some (rows.getD i []) := by rw [getD_get hi']; exact List.getElem?_eq_getElem hi'
    refine cw_turn c (by omega) (ht a _ H1 (e.trans e1) (List.mem_of_getElem? hr) (hR.word ha hr)) fun hf => ?_
    have ev : v i = .ref a := congrArg V.ref (getD_some ha)
    rw [ev]
    exact ev_var (hj _)
  · rw [refV_len, ql] at c
    have eg : given rows.length f v = refV (((List.range rows.length).filter f).map fun i => qs.getD i 0) := by
      unfold given refV
      rw [List.map_map]
      rfl
    obtain ⟨c1, c2, c3⟩ := c
    rw [eg] at c3
    have er : rows.filter p = ((List.range rows.length).filter f).map fun i => rows.getD i [] := by
      have h1 : (List.range rows.length).map (fun i => rows.getD i []) = rows := by
        refine List.ext_getElem (by simp) fun i a b => ?_
        rw [List.getElem_map, List.getElem_range, getD_get b]
      have h2 : (List.range rows.length).filter f = (List.range rows.length).filter (p ∘ fun i => rows.getD i []) := rfl
      rw [h2]
      have h3 := List.filter_map (f := fun i => rows.getD i []) (p := p) (l := List.range rows.length)
      rw [h1] at h3
      exact h3
    refine q Dl _ H' (fresh_back e1 c1) (fun b hb => ?_) (e1.trans c2) c3 ?_
    · obtain ⟨i, hi, rfl⟩ := List.mem_map.mp hb
      have hi2 : i < rows.length := by simpa using (List.mem_filter.mp hi).1
      rw [getD_get (by rw [ql]; exact hi2)]
      exact nq _ (List.getElem_mem _)
    · rw [er]
      refine ⟨by simp, fun i b r hb hr => ?_⟩
      obtain ⟨n, hn, rfl⟩ := map_get hb
      obtain ⟨y, hy, rfl⟩ := map_get hr
      obtain ⟨n2, hn2, rfl⟩ := map_get hy
      rw [hn] at hn2
      cases hn2
      have hi2 : n < rows.length := by simpa using (List.mem_filter.mp (List.mem_of_getElem? hn)).1
      have hqn : n < qs.length := by rw [ql]; exact hi2
      have := hR.word (i := n) (a := qs.getD n 0) (w := rows.getD n []) (by rw [getD_get hqn]; exact List.getElem?_eq_getElem hqn) (by rw [getD_get hi2]; exact List.getElem?_eq_getElem hi2)
      rw [zV_by]
      exact c2 _ _ this⟩
def pLine (K : PySem.W.Frag) : List V → Hp → List (List Nat) → Prop := fun vs H rows => ∃ (p : Addr) (t : List Nat), vs = [.ref p] ∧ SqL K H p (byV t) ∧ t.length ≤ 4000 ∧ rows = wordsB t
theorem ok_line_words : FnOk P w K mg base CX0 2 T.line_words.f T.line_words.fd ["line"] (spLL (pLine K)) := by
  refine T.line_words.F.ok sc_line_words (fun vs H Q E h => ?_) (fun cdv A outer s H vs Q E hr h => ?_)
  · obtain ⟨z, ⟨p, t, rfl, _⟩, _⟩ := h
    rfl
  · obtain ⟨z, ⟨p, t, rfl, hp, ht, rfl⟩, k⟩ := h
    refine ⟨_, (pss_one (ps_ret (pe_lc (own := [("piece", 1)]) (g := gName 1) rfl sc_line_words.nd (pi_list (pe_call (ok_split_at T) (hr.mono (by decide)) (by rfl) T.split_at.g T.split_at.F.kp T.split_at.b .nil pass0 (pa_cons (pv 0) (pa_cons pe_int pa_nil)))) (blkOk_by (N := ["line", "piece"]) (sc := defScope tx_line_words) (by decide +kernel)) (fun _ _ _ _ _ => pg_name (i := 1) sc_line_words.nd rfl (Or.inl rfl)) (fun _ _ _ _ _ => (pts_one (pt_cmpR op_gt (pe_callB (call_lenK (K := K) rfl) (by rfl) T.b_len (by decide +kernel) (pa_cons (pv 1) pa_nil)) pe_int (nomark _)))) (fun _ _ _ _ _ => (pv 1))))), ?_⟩
    have sl := split_len 32 t
    refine s_retLL (ell_filter (K := K) (fun w => decide (0 < w.length)) (ell_call (ea_cons (ev_var rfl) (ea_cons ev_c ea_nil)) fun H1 e1 => ⟨p, t, 32, rfl, ex_l e1 hp, ht, rfl⟩) (by omega) (fun _ => rfl) (fun _ => rfl) fun a r H1 e1 hr hra => ?_) k
    refine et_is (et_test (ev_i (ev_len (K := K) (ev_var rfl) (SqL.of hra)) ev_c)) ?_
    rw [byV_len]
    exact decide_eq_decide.mpr (by omega)
/-- [f(x) for x in texts], f giving new lists -/
theorem ell_mapN {σ : L2.St} {H : Hp} {tl te : TE} {j : Nat} {vs : List Nat} {zs : List Str} (g : Str → List Nat) (h : EvL tl σ H (zs.map V.str)) (hz : zs.length ≤ 40000) (hw : ∀ x, wipe ((wipe σ vs).set j (some x)) vs = wipe σ vs)
    (he : ∀ (z : Str) H1, Ex H H1 → z ∈ zs → EvL te ((wipe σ vs).set j (some (.str z))) H1 (byV (g z))) : EvLL (tLc (iList K tl) (gName j) tYes te vs) σ H (zs.map g) := fun H0 e Q q => h H0 e _ fun l H1 nl e1 hl => ⟨l, rfl, ⟨_, sq_of hl⟩, fun Dl hD => by
  refine lc_list (xs := zs.map V.str) (fun i H' => ∃ qs, Ex H1 H' ∧ H' Dl = some (.lst (refV qs)) ∧ RowsAt H' qs (((zs.take i).map g).map byZ) ∧ (∀ q ∈ qs, H1 q = none) ∧ Dl ∉ qs) ⟨[], Ex.new hD, upd_same, ⟨rfl, fun i a r x => by simp at x⟩, fun q hq => by simp at hq, by simp⟩ (fun i H' _ c => ?_) (fun i x H' hi c => ⟨hw x, ?_⟩) (fun H' c => ?_)
  · obtain ⟨qs, c1, _⟩ := c
    exact sq_of (c1 l _ hl)
  · obtain ⟨qs, c1, c2, c3, c4, c5⟩ := c
    obtain ⟨z, hzi, rfl⟩ := map_get hi
    show te ((wipe σ vs).set j (some (V.str z))) H' fun y H4 => ∃ acc, H4 Dl = some (.lst acc) ∧ acc.length < sizeLine ∧ _
    refine he z H' ((e.trans e1).trans c1) (List.mem_of_getElem? hzi) H' (Ex.refl H') _ fun p H4 np e4 hp => ⟨refV qs, e4 _ _ c2, sz_lt (by
      have := lt_of_get hzi
      rw [refV_len, c3.len, List.length_map, List.length_map, List.length_take]
      omega), qs ++ [p], ?_⟩
    have pD : p ≠ Dl := fun y => by
      rw [y, c2] at np
      cases np
    have b5 : ExB Dl H4 (upd H4 Dl (.lst (refV qs ++ [.ref p]))) := ExB.upd Dl H4 _
    have hD5 : (upd H4 Dl (.lst (refV qs ++ [.ref p]))) Dl = some (.lst (refV (qs ++ [p]))) := by
      rw [upd_same, refV_app]
      rfl
    generalize upd H4 Dl (.lst (refV qs ++ [.ref p])) = H5 at b5 hD5
    refine ⟨ExB.ex (c1.trans e4) hD b5, hD5, ?_, fun q hq => ?_, fun m => ?_⟩
    · rw [take_more hzi, List.map_append, List.map_append]
      refine RowsAt.snoc ((c3.ex e4).but c5 b5) ?_
      rw [zV_by]
      exact b5 _ _ pD hp
    · rcases List.mem_append.mp hq with m | m
      · exact c4 q m
      · have : q = p := by simpa using m
        rw [this]
        exact fresh_back c1 np
    · rcases List.mem_append.mp m with m | m
      · exact c5 m
      · have : Dl = p := by simpa using m
        exact pD this.symm
  · obtain ⟨qs, c1, c2, c3, c4, c5⟩ := c
    rw [List.length_map, List.take_length] at c3
    exact q Dl qs H' (fresh_back e1 hD) (fun b hb => fresh_back e1 (c4 b hb)) (e1.trans c1) c2 c3⟩
/-- word in a list of new lists -/
theorem dp_rows {H : Hp} : ∀ {qs : List Addr} {rows : List (List Int)}, RowsAt H qs rows → DpAll K H (refV qs) (rows.map pdI)
  | [], [], _ => .nil
  | [], _ :: _, h => by
    have := h.len
    simp at this
  | _ :: _, [], h => by
    have := h.len
    simp at this
  | q :: qs, r :: rows, h => .cons (dp_ints (SqL.of (h.at_ 0 q r rfl rfl))) (dp_rows ⟨by have := h.len; simpa using this, fun i a x y z => h.at_ (i + 1) a x (by simpa using y) (by simpa using z)⟩)
theorem lay_rows : ∀ rows : List (List Int), PyData.canLayAll0 (rows.map pdI) = true
  | [] => by simp [PyData.canLayAll0]
  | r :: rows => by
    rw [List.map_cons, PyData.canLayAll0, lay_rows rows, Bool.and_true]
    exact SeqAt.canLay_of_shaped (shaped_ints r)
theorem depth_rows : ∀ rows : List (List Int), PyData.depthAll (rows.map pdI) ≤ 1
  | [] => by simp [PyData.depthAll]
  | r :: rows => by
    rw [List.map_cons, PyData.depthAll]
    have h1 : (pdI r).depth = 1 := by
      unfold pdI
      rw [PyData.depth, depth_ints]
    have h2 := depth_rows rows
    omega
theorem shaped_rows (rows : List (List Int)) : SeqAt.shaped (.list (rows.map pdI)) = true := by
  unfold SeqAt.shaped
  rw [PyData.canLay0, lay_rows, PyData.depth, Bool.true_and]
  have := depth_rows rows
  exact decide_eq_true (by omega)
theorem ev_inLL {σ : L2.St} {H : Hp} {ta tb : TE} {q : Addr} {wd : List Nat} {rows : List (List Nat)} (ha : Ev ta σ H (.ref q)) (hq : H q = some (.lst (byV wd))) (hb : EvLL tb σ H rows) : Ev (tOp (rInD K) ta tb) σ H (.bl (rows.contains wd)) := fun H1 e Q k =>
  ha H1 e _ fun H2 e2 => hb H2 (e.trans e2) _ fun p qs H3 np nq e3 hp hR => by
    refine ⟨pdI (byZ wd), (rows.map byZ).map pdI, dp_ints (SqL.of ?_), .lst (SqL.of hp) (dp_rows hR), shaped_ints _, shaped_rows _, ?_⟩
    · rw [← byV_z]
      exact ((e.trans e2).trans e3) _ _ hq
    · have : ((rows.map byZ).map pdI).any (fun z => PyData.eqv z (pdI (byZ wd))) = rows.contains wd := by
        rw [List.any_map, List.any_map]
        rw [List.contains_eq_any_beq]
        congr 1
        funext r
        show PyData.eqv (pdI (byZ r)) (pdI (byZ wd)) = _
        rw [eqv_ints, byZ_dec]
        by_cases h : r = wd
        · subst h
          simp
        · have h2 : ¬ wd = r := fun z => h z.symm
          have a1 : (r == wd) = false := by simpa using h
          have a2 : (wd == r) = false := by simpa using h2
          rw [a1, a2]
      rw [this]
      exact k H3 (e2.trans e3)
def keptStr : Str := "arbor drive wheel mesh inside on hand jump count rack calendar"
theorem kept_split : (PySem.Txt.split keptStr " ").map (fun z => z.cps.toList) = Mu07.kept := by decide +kernel
theorem kept_small : ∀ z ∈ PySem.Txt.split keptStr " ", z.cps.size ≤ 1000 := by decide +kernel
def pKept : List V → Hp → V → Prop := fun vs H z => ∃ (q : Addr) (wd : List Nat), vs = [.ref q] ∧ H q = some (.lst (byV wd)) ∧ z = .bl (Mu07.kept.contains wd)
theorem el_split {σ : L2.St} {H : Hp} {to te : TE} {a b : Str} (ho : Ev to σ H (.str a)) (he : Ev te σ H (.str b)) (h1 : (b.length == 0) = false) (h2 : a.length + 2 ≤ sizeLine) :
    EvL (tM1 (fun x xs H Q => ∃ a b, x = .str a ∧ xs = [.str b] ∧ (b.length == 0) = false ∧ a.length + 2 ≤ sizeLine ∧ rNewStrs (PySem.Txt.split a b) H Q) to te) σ H ((PySem.Txt.split a b).map V.str) := fun H1 e Q q =>
  ho H1 e _ fun H2 e2 => ⟨⟨a, rfl⟩, he H2 (e.trans e2) _ fun H3 e3 => ⟨a, b, rfl, rfl, h1, h2, fun p np => q p _ (fresh_back (e2.trans e3) np) ((e2.trans e3).trans (Ex.new np)) upd_same⟩⟩
theorem ok_is_kept : FnOk P w K mg base CX0 2 T.is_kept.f T.is_kept.fd ["word"] (spV pKept) := by
  refine T.is_kept.F.ok sc_is_kept (fun vs H Q E h => ?_) (fun cdv A outer s H vs Q E hr h => ?_)
  · obtain ⟨z, ⟨q, wd, rfl, _⟩, _⟩ := h
    rfl
  · obtain ⟨z, ⟨q, wd, rfl, hq, rfl⟩, k⟩ := h
    refine ⟨_, (pss_cons (ps_set (i := 1) sc_is_kept.nd rfl (Or.inl rfl) pe_str)
    (pss_one (ps_ret (pe_cmpR (op_inD (hu65 hr)) (pv 0) (pe_lc (own := [("name", 2)]) (g := gName 2) (tt := tYes) rfl sc_is_kept.nd (pi_list (pe_split (pv 1) pe_str)) (blkOk_by (N := ["word", "kept", "name"]) (sc := defScope tx_is_kept) (by decide +kernel)) (fun _ _ _ _ _ => pg_name (i := 2) sc_is_kept.nd rfl (Or.inl rfl)) (fun _ _ _ _ _ => pts_nil) (fun _ _ _ _ _ => (pe_call (ok_signs T) (hr.mono (by decide)) (by rfl) T.signs.g T.signs.F.kp T.signs.b .nil pass0 (pa_cons (pv 2) pa_nil)))) (by rfl))))), ?_⟩
    refine q_asg ev_c fun H1 e1 => ?_
    rw [← kept_split] at k
    refine s_ret (ev_inLL (ev_var rfl) (e1 _ _ hq) (ell_mapN (K := K) (fun z => z.cps.toList) (el_split (a := keptStr) (b := " ") (ev_var rfl) ev_c (by decide +kernel) (by decide +kernel)) (by decide +kernel) (fun _ => rfl) fun z H2 e2 hz => el_call (ea_cons (ev_var rfl) ea_nil) (sl_of fun _ _ => ⟨z, rfl, kept_small z hz, rfl⟩))) fun H2 e2 => k H2 (e1.trans e2)
end
end Cw

/-! Reading, in plain Lean: a line's words are the specification's tokens. -/
namespace Cw
open Mu07 (Bytes Tok small digit numberOf toks ascii)
def tokOf (w : Bytes) : Tok := if small (w.getD 0 0) = true then .name w else .num (numberOf w)
theorem small_not_digit {c : Nat} (h : small c = true) : digit c = false := by
  unfold small at h
  unfold digit
  rw [Bool.and_eq_true] at h
  have h1 := of_decide_eq_true h.1
  have : decide (c ≤ 57) = false := decide_eq_false (by omega)
  rw [this, Bool.and_false]
theorem digit_part {c : Nat} (h : digit c = true) : Mu07.part c = true := by
  unfold Mu07.part
  rw [h, Bool.or_true]
theorem part_ne32 {c : Nat} (h : Mu07.part c = true) : c ≠ 32 := fun e => by
  subst e
  exact absurd h (by decide)
theorem words_nil : wordsB [] = [] := rfl
theorem words_blank (r : List Nat) : wordsB (32 :: r) = wordsB r := by
  unfold wordsB
  have e : splitB 32 (32 :: r) = [] :: splitB 32 r := if_pos rfl
  rw [e, List.filter_cons, if_neg (by simp)]
/-- a word, up to a blank -/
def notBlank (c : Nat) : Bool := decide (c ≠ 32)
theorem split_run : ∀ r : List Nat, splitB 32 r = (r.takeWhile notBlank) :: (match r.dropWhile notBlank with | [] => [] | _ :: q => splitB 32 q)
  | [] => rfl
  | x :: r => by
    by_cases h : x = 32
    · subst h
      have e : splitB 32 (32 :: r) = [] :: splitB 32 r := if_pos rfl
      rw [e]
      rfl
    · have nb : notBlank x = true := decide_eq_true h
      have e : splitB 32 (x :: r) = (match splitB 32 r with | [] => [[x]] | l :: m => (x :: l) :: m) := by
        show (if x = 32 then [] :: splitB 32 r else _) = _
        rw [if_neg h]
        all_goals (cases splitB 32 r <;> rfl)
      rw [e, split_run r, List.takeWhile_cons, if_pos nb, List.dropWhile_cons, if_pos nb]
theorem words_run {c : Nat} (r : List Nat) (h : c ≠ 32) : wordsB (c :: r) = (c :: r.takeWhile notBlank) :: wordsB (r.dropWhile notBlank) := by
  have nb : notBlank c = true := decide_eq_true h
  unfold wordsB
  rw [split_run (c :: r), List.takeWhile_cons, if_pos nb, List.dropWhile_cons, if_pos nb, List.filter_cons, if_pos (by simp)]
  congr 1
  cases hd : r.dropWhile notBlank with
  | nil => rfl
  | cons x q =>
    have hx : x = 32 := by
      have hh := List.head_dropWhile_not notBlank (l := r) (by rw [hd]; simp)
      have e1 : (r.dropWhile notBlank).head (by rw [hd]; simp) = x := by simp [hd]
      rw [e1] at hh
      unfold notBlank at hh
      simpa using hh
    subst hx
    have e : splitB 32 (32 :: q) = [] :: splitB 32 q := if_pos rfl
    rw [e, List.filter_cons, if_neg (by simp)]
theorem canBe_cons (w : Bytes) (ws : List Bytes) : canBe (w :: ws) = ((isName w || isNumber w) && canBe ws) := rfl
/-- a word with a sign that is no letter and no digit -/
theorem bad_word {w : Bytes} (h : ∃ c ∈ w, Mu07.part c = false) : (isName w || isNumber w) = false := by
  obtain ⟨c, hc, hp⟩ := h
  have h1 : w.all Mu07.part = false := List.all_eq_false.mpr ⟨c, hc, by rw [hp]; decide⟩
  have h2 : w.all digit = false := List.all_eq_false.mpr ⟨c, hc, fun z => by rw [digit_part z] at hp; cases hp⟩
  unfold isName isNumber
  rw [h1, h2]
  simp
theorem takeWhile_mem {p : Nat → Bool} : ∀ {l : List Nat} {x : Nat}, x ∈ l.takeWhile p → p x = true
  | [], x, h => by simp at h
  | a :: l, x, h => by
    rw [List.takeWhile_cons] at h
    split at h
    · rename_i ha
      rcases List.mem_cons.mp h with rfl | m
      · exact ha
      · exact takeWhile_mem m
    · simp at h
/-- the run of letters and digits ends at a blank or at the end: it is the word -/
theorem run_same : ∀ (r : List Nat), (match r.dropWhile Mu07.part with | [] => True | x :: _ => x = 32) → r.takeWhile notBlank = r.takeWhile Mu07.part ∧ r.dropWhile notBlank = r.dropWhile Mu07.part
  | [], _ => ⟨rfl, rfl⟩
  | x :: r, h => by
    by_cases hp : Mu07.part x = true
    · rw [List.dropWhile_cons, if_pos hp] at h
      have nb : notBlank x = true := decide_eq_true (part_ne32 hp)
      obtain ⟨a, b⟩ := run_same r h
      rw [List.takeWhile_cons, if_pos nb, List.takeWhile_cons, if_pos hp, List.dropWhile_cons, if_pos nb, List.dropWhile_cons, if_pos hp, a, b]
      exact ⟨rfl, rfl⟩
    · rw [List.dropWhile_cons, if_neg hp] at h
      have h : x = 32 := h
      subst h
      rw [List.takeWhile_cons, if_neg (by decide), List.takeWhile_cons, if_neg hp, List.dropWhile_cons, if_neg (by decide), List.dropWhile_cons, if_neg hp]
      exact ⟨rfl, rfl⟩
theorem drop_len (p : Nat → Bool) : ∀ l : List Nat, (l.dropWhile p).length ≤ l.length
  | [] => Nat.le_refl _
  | a :: l => by
    rw [List.dropWhile_cons]
    split
    · have := drop_len p l
      simp
      omega
    · exact Nat.le_refl _
/-- a sign that is neither a blank nor a letter nor a digit stands in the first word -/
theorem run_bad : ∀ (r : List Nat), (∃ x q, r.dropWhile Mu07.part = x :: q ∧ x ≠ 32) → ∃ c ∈ r.takeWhile notBlank, Mu07.part c = false
  | [], h => by
    obtain ⟨x, q, e, _⟩ := h
    simp at e
  | y :: r, h => by
    by_cases hp : Mu07.part y = true
    · obtain ⟨x, q, e, ne⟩ := h
      rw [List.dropWhile_cons, if_pos hp] at e
      obtain ⟨c, hc, hcp⟩ := run_bad r ⟨x, q, e, ne⟩
      refine ⟨c, ?_, hcp⟩
      have nb : notBlank y = true := decide_eq_true (part_ne32 hp)
      rw [List.takeWhile_cons, if_pos nb]
      exact List.mem_cons_of_mem _ hc
    · obtain ⟨x, q, e, ne⟩ := h
      rw [List.dropWhile_cons, if_neg hp] at e
      have : y = x := by injection e
      subst this
      have nb : notBlank y = true := decide_eq_true ne
      refine ⟨y, ?_, by simpa using hp⟩
      rw [List.takeWhile_cons, if_pos nb]
      exact List.mem_cons_self ..
def toksOf (ws : List Bytes) : Except Nat (List Tok) := if canBe ws = true then .ok (ws.map tokOf) else .error 1
theorem toksOf_bad {ws : List Bytes} (h : canBe ws = false) : toksOf ws = .error 1 := if_neg (by rw [h]; decide)
theorem toks_error_any {k : Nat} {x : Nat} {q : List Nat} (hk : 0 < k) (h1 : x ≠ 32) (h2 : Mu07.part x = false) : toks k (x :: q) = .error 1 := by
  obtain ⟨j, rfl⟩ : ∃ j, k = j + 1 := ⟨k - 1, by omega⟩
  unfold toks
  rw [if_neg h1, if_neg (by rw [h2]; decide)]
  rfl
theorem toks_is : ∀ (n : Nat) (l : List Nat) (k : Nat), l.length ≤ n → l.length < k → toks k l = toksOf (wordsB l)
  | n, [], k, _, hk => by
    obtain ⟨j, rfl⟩ : ∃ j, k = j + 1 := ⟨k - 1, by omega⟩
    rfl
  | 0, _ :: _, _, hn, _ => by simp at hn
  | n + 1, c :: r, k, hn, hk => by
    obtain ⟨j, rfl⟩ : ∃ j, k = j + 1 := ⟨k - 1, by omega⟩
    simp only [List.length_cons] at hn hk
    by_cases hb : c = 32
    · subst hb
      have e : toks (j + 1) (32 :: r) = toks j r := by
        show (if (32 : Nat) = 32 then toks j r else _) = _
        rw [if_pos rfl]
      rw [e, words_blank]
      exact toks_is n r j (by omega) (by omega)
    · rw [words_run r hb]
      by_cases hp : Mu07.part c = true
      · have ebt : (c :: r).takeWhile Mu07.part = c :: r.takeWhile Mu07.part := by rw [List.takeWhile_cons, if_pos hp]
        have ebd : (c :: r).dropWhile Mu07.part = r.dropWhile Mu07.part := by rw [List.dropWhile_cons, if_pos hp]
        have dl := drop_len Mu07.part r
        generalize hL : r.dropWhile Mu07.part = L at *
        generalize hBq : r.takeWhile Mu07.part = B at *
        have allp : (c :: B).all Mu07.part = true := by
          rw [List.all_eq_true]
          intro x hx
          rcases List.mem_cons.mp hx with rfl | m
          · exact hp
          · rw [← hBq] at m
            exact takeWhile_mem m
        -- what the specification does
        have e : toks (j + 1) (c :: r) = (if small c = true then (if 12 < (c :: B).length then .error 1 else (toks j L).bind fun x => .ok (.name (c :: B) :: x)) else (if (c :: B).all digit = false ∨ (9 < (c :: B).length ∨ (1 < (c :: B).length ∧ c = 48)) then .error 1 else (toks j L).bind fun x => .ok (.num (numberOf (c :: B)) :: x))) := by
          rw [toks, if_neg hb, if_pos hp, ebt, ebd]
          by_cases hs : small c = true
          · rw [if_pos hs, if_pos hs]
            by_cases h12 : 12 < (c :: B).length
            · rw [if_pos h12, if_pos h12]
              rfl
            · rw [if_neg h12, if_neg h12]
              rfl
          · rw [if_neg hs, if_neg hs]
            by_cases h9 : (c :: B).all digit = false ∨ (9 < (c :: B).length ∨ (1 < (c :: B).length ∧ c = 48))
            · rw [if_pos h9, if_pos h9]
              rfl
            · rw [if_neg h9, if_neg h9]
              rfl
        rw [e]
        have okw : (isName (c :: B) || isNumber (c :: B)) = if small c = true then !decide (12 < (c :: B).length) else !decide ((c :: B).all digit = false ∨ (9 < (c :: B).length ∨ (1 < (c :: B).length ∧ c = 48))) := by
          unfold isName isNumber
          rw [allp]
          simp only [List.getD_cons_zero]
          by_cases hs : small c = true
          · rw [if_pos hs, hs]
            have : (c :: B).all digit = false := List.all_eq_false.mpr ⟨c, List.mem_cons_self .., by rw [small_not_digit hs]; decide⟩
            rw [this]
            simp
          · have hs' : small c = false := by simpa using hs
            have hbe : (c == 48) = decide (c = 48) := by by_cases h : c = 48 <;> simp [h]
            rw [if_neg hs, hs', hbe]
            by_cases h1 : (c :: B).all digit = true
            · rw [h1]
              by_cases h2 : 9 < (c :: B).length
              · simp [h2]
              · by_cases h3 : 1 < (c :: B).length
                · by_cases h4 : c = 48
                  · simp [h2, h3, h4]
                  · simp [h2, h3, h4]
                · simp [h2, h3]
            · have h1' : (c :: B).all digit = false := by simpa using h1
              rw [h1']
              simp
        by_cases hend : (match L with | [] => True | x :: _ => x = 32)
        · obtain ⟨t1, t2⟩ := run_same r (by rw [hL]; exact hend)
          rw [hBq] at t1
          rw [hL] at t2
          rw [t1, t2]
          have ih := toks_is n L j (by omega) (by omega)
          rw [ih]
          unfold toksOf
          rw [canBe_cons, okw]
          by_cases hs : small c = true
          · rw [if_pos hs, if_pos hs]
            by_cases h12 : 12 < (c :: B).length
            · have : (!decide (12 < (c :: B).length)) = false := by rw [decide_eq_true h12]; rfl
              rw [if_pos h12, this, Bool.false_and, if_neg (by decide)]
            · rw [if_neg h12]
              have : (!decide (12 < (c :: B).length)) = true := by simpa using h12
              rw [this, Bool.true_and]
              cases hc : canBe (wordsB L) with
              | false => rfl
              | true =>
                have : tokOf (c :: B) = .name (c :: B) := if_pos hs
                show Except.ok _ = Except.ok (tokOf (c :: B) :: (wordsB L).map tokOf)
                rw [this]
          · rw [if_neg hs, if_neg hs]
            by_cases h9 : (c :: B).all digit = false ∨ (9 < (c :: B).length ∨ (1 < (c :: B).length ∧ c = 48))
            · rw [if_pos h9, decide_eq_true h9]
              rfl
            · rw [if_neg h9, decide_eq_false h9]
              cases hc : canBe (wordsB L) with
              | false => rfl
              | true =>
                have : tokOf (c :: B) = .num (numberOf (c :: B)) := if_neg hs
                show Except.ok _ = Except.ok (tokOf (c :: B) :: (wordsB L).map tokOf)
                rw [this]
        · have hx : ∃ x q, L = x :: q ∧ x ≠ 32 := by
            cases L with
            | nil => exact absurd trivial hend
            | cons x q => exact ⟨x, q, rfl, hend⟩
          obtain ⟨cb, hcb, hcp⟩ := run_bad r (by rw [hL]; exact hx)
          have bad := bad_word (w := c :: r.takeWhile notBlank) ⟨cb, List.mem_cons_of_mem _ hcb, hcp⟩
          rw [toksOf_bad (by rw [canBe_cons, bad]; rfl)]
          obtain ⟨x, q, rfl, hx32⟩ := hx
          have xp : Mu07.part x = false := by
            have hh := List.head_dropWhile_not Mu07.part (l := r) (by rw [hL]; simp)
            have e1 : (r.dropWhile Mu07.part).head (by rw [hL]; simp) = x := by simp [hL]
            rw [e1] at hh
            simpa using hh
          have te := toks_error_any (k := j) (x := x) (q := q) (by omega) hx32 xp
          rw [te]
          by_cases hs : small c = true
          · rw [if_pos hs]
            split <;> rfl
          · rw [if_neg hs]
            split <;> rfl
      · have hp' : Mu07.part c = false := by simpa using hp
        rw [toks_error_any (by omega) hb hp', toksOf_bad (by rw [canBe_cons, bad_word ⟨c, List.mem_cons_self .., hp'⟩]; rfl)]
/-- lines are pieces between bytes 10 -/
theorem lines_is : ∀ t : List Nat, Mu07.lines t = splitB 10 t
  | [] => rfl
  | c :: r => by
    have ih := lines_is r
    by_cases h : c = 10
    · subst h
      show [] :: Mu07.lines r = _
      have e : splitB 10 (10 :: r) = [] :: splitB 10 r := if_pos rfl
      rw [ih, e]
    · have e : splitB 10 (c :: r) = (match splitB 10 r with | [] => [[c]] | l :: m => (c :: l) :: m) := by
        show (if c = 10 then [] :: splitB 10 r else _) = _
        rw [if_neg h]
        all_goals (cases splitB 10 r <;> rfl)
      have e2 : Mu07.lines (c :: r) = (match Mu07.lines r with | [] => [[c]] | l :: m => (c :: l) :: m) := by
        rw [Mu07.lines]
        · cases Mu07.lines r <;> rfl
        · exact h
      rw [e, e2, ih]
      cases splitB 10 r <;> rfl
end Cw

/-! Reading, in plain Lean: what the program does with a line is what the specification puts. -/
namespace Cw
open Mu07 (Bytes Tok Works Goes small digit numberOf ascii kept there indexOf goes daysOf trueLeap)
abbrev R := Except Nat Works
def wd (ws : List Bytes) (i : Nat) : Bytes := ws.getD i []
/-- the fault of a line with a new name; 0 if there's none -/
def newName (W : Works) (ws : List Bytes) (f : List Nat) (n most : Nat) : Nat :=
  if (!formOk ws f || kept.contains (wd ws 1)) = true then 2 else if there W (wd ws 1) = true then 4 else if most ≤ n then 6 else 0
def withName (W : Works) (ws : List Bytes) (f : List Nat) (n most : Nat) (k : R) : R := if 0 < newName W ws f n most then .error (newName W ws f n most) else k
def rArbor (W : Works) (ws : List Bytes) : R := withName W ws [110] W.arbors.length 12 (.ok { W with arbors := W.arbors ++ [wd ws 1] })
def rDrive (W : Works) (ws : List Bytes) : R := if (!formOk ws [110, 57]) = true then .error 2 else match indexOf W.arbors (wd ws 1) with
  | none => .error 3
  | some i => if W.drive.isSome = true then .error 4 else if numberOf (wd ws 2) < 1 then .error 5 else .ok { W with drive := some (i, numberOf (wd ws 2)) }
def rWheel (W : Works) (ws : List Bytes) : R := withName W ws [110, 110, 57] W.wheels.length 24 (match indexOf W.arbors (wd ws 2) with
  | none => .error 3
  | some i => if numberOf (wd ws 3) < 6 ∨ 400 < numberOf (wd ws 3) then .error 5 else .ok { W with wheels := W.wheels ++ [⟨wd ws 1, i, numberOf (wd ws 3)⟩] })
def rMeshRest (W : Works) (rest : List Bytes) (i j : Nat) : R :=
  let ins := decide (0 < rest.length) && decide (wd rest 0 = ascii "inside")
  let r := if ins = true then rest.drop 1 else rest
  if 0 < r.length then
    if r.length ≠ 2 ∨ wd r 0 ≠ ascii "on" ∨ isName (wd r 1) = false then .error 2 else match indexOf W.arbors (wd r 1) with
      | none => .error 3
      | some c => .ok { W with meshes := W.meshes ++ [⟨i, j, ins, some c⟩] }
  else .ok { W with meshes := W.meshes ++ [⟨i, j, ins, none⟩] }
def rMesh (W : Works) (ws : List Bytes) : R := if (!formOk (ws.take 3) [110, 110]) = true then .error 2 else if 24 ≤ W.meshes.length then .error 6 else if (kept.contains (wd ws 1) || kept.contains (wd ws 2)) = true then .error 2 else
  match Mu07.wheel W (wd ws 1), Mu07.wheel W (wd ws 2) with
  | some i, some j => rMeshRest W (ws.drop 3) i j
  | _, _ => .error 3
def rJump (W : Works) (ws : List Bytes) : R := withName W ws [110, 110, 57] W.stars.length 6 (match goes W (wd ws 2) with
  | none => .error 3
  | some g => if numberOf (wd ws 3) < 2 ∨ 400 < numberOf (wd ws 3) then .error 5 else .ok { W with stars := W.stars ++ [⟨wd ws 1, g, numberOf (wd ws 3)⟩] })
def rHand (W : Works) (ws : List Bytes) : R := withName W ws [110, 110, 57, 57] W.hands.length 12 (match goes W (wd ws 2) with
  | none => .error 3
  | some g => if numberOf (wd ws 3) < 1 ∨ 1000 < numberOf (wd ws 3) ∨ numberOf (wd ws 3) ≤ numberOf (wd ws 4) then .error 5 else .ok { W with hands := W.hands ++ [⟨wd ws 1, g, numberOf (wd ws 3), numberOf (wd ws 4)⟩] })
def countForm (ws : List Bytes) : List Nat := [110, 110] ++ List.replicate (max 1 (ws.length - 3)) 57
def rCount (W : Works) (ws : List Bytes) : R := withName W ws (countForm ws) W.strikers.length 6 (match goes W (wd ws 2) with
  | none => .error 3
  | some g => if 24 < (ws.drop 3).length ∨ ((ws.drop 3).map numberOf).any (fun (n : Nat) => decide (99 < n)) = true then .error 5 else .ok { W with strikers := W.strikers ++ [⟨wd ws 1, g, (ws.drop 3).map numberOf, none⟩] })
def rRack (W : Works) (ws : List Bytes) : R := withName W ws [110, 110, 110] W.strikers.length 6 (match goes W (wd ws 2), Mu07.hand W (wd ws 3) with
  | some g, some i => .ok { W with strikers := W.strikers ++ [⟨wd ws 1, g, [], some i⟩] }
  | _, _ => .error 3)
def rCalendar (W : Works) (ws : List Bytes) : R := withName W ws [110, 110, 57, 57, 57] W.calendars.length 2 (match goes W (wd ws 2) with
  | none => .error 3
  | some g =>
    let y := numberOf (wd ws 3)
    let m := numberOf (wd ws 4)
    let d := numberOf (wd ws 5)
    if y < 1 ∨ 9999 < y ∨ m < 1 ∨ 12 < m then .error 5 else if d < 1 ∨ daysOf (trueLeap (y : Int)) m < d then .error 5 else .ok { W with calendars := W.calendars ++ [⟨wd ws 1, g, ⟨(y : Int), m, d⟩⟩] })
def rWords (W : Works) (ws : List Bytes) : R :=
  if wd ws 0 = ascii "arbor" then rArbor W ws else if wd ws 0 = ascii "drive" then rDrive W ws else if wd ws 0 = ascii "wheel" then rWheel W ws else if wd ws 0 = ascii "mesh" then rMesh W ws else if wd ws 0 = ascii "jump" then rJump W ws
  else if wd ws 0 = ascii "hand" then rHand W ws else if wd ws 0 = ascii "count" then rCount W ws else if wd ws 0 = ascii "rack" then rRack W ws else if wd ws 0 = ascii "calendar" then rCalendar W ws else .error 2
/-! ### the specification's, kind by kind -/
def named (W : Works) (a : Bytes) (n most : Nat) (k : R) : R := if kept.contains a = true then .error 2 else if there W a = true then .error 4 else if n < most then k else .error 6
theorem named_is (W : Works) (a : Bytes) (n most : Nat) (k : R) : (do Mu07.fresh W a; Mu07.room n most; k) = named W a n most k := by
  unfold Mu07.fresh Mu07.room named
  by_cases h1 : kept.contains a = true
  · rw [if_pos h1, if_pos h1]
    rfl
  · rw [if_neg h1, if_neg h1]
    by_cases h2 : there W a = true
    · rw [if_pos h2, if_pos h2]
      rfl
    · rw [if_neg h2, if_neg h2]
      by_cases h3 : n < most
      · rw [if_pos h3, if_pos h3]
        rfl
      · rw [if_neg h3, if_neg h3]
        rfl
theorem known_bind {α : Type} (x : Option α) (k : α → R) : (Mu07.known x >>= k) = match x with | some a => k a | none => .error 3 := by
  cases x <;> rfl
theorem bounds_bind (n lo hi : Nat) (k : R) : (Mu07.bounds n lo hi >>= fun _ => k) = if lo ≤ n ∧ n ≤ hi then k else .error 5 := by
  unfold Mu07.bounds
  split <;> rfl
/-- a line by its first word -/
def pArbor (W : Works) : List Tok → R
  | [.name a] => named W a W.arbors.length 12 (.ok { W with arbors := W.arbors ++ [a] })
  | _ => .error 2
def pDrive (W : Works) : List Tok → R
  | [.name a, .num n] => match indexOf W.arbors a with
    | some i => if W.drive.isSome = true then .error 4 else if 1 ≤ n ∧ n ≤ 999999999 then .ok { W with drive := some (i, n) } else .error 5
    | none => .error 3
  | _ => .error 2
def pWheel_ (W : Works) : List Tok → R
  | [.name v, .name a, .num n] => named W v W.wheels.length 24 (match indexOf W.arbors a with
    | some i => if 6 ≤ n ∧ n ≤ 400 then .ok { W with wheels := W.wheels ++ [⟨v, i, n⟩] } else .error 5
    | none => .error 3)
  | _ => .error 2
def pMesh_ (W : Works) : List Tok → R
  | .name v :: .name x :: r => if W.meshes.length < 24 then (if kept.contains v = true ∨ kept.contains x = true then .error 2 else match Mu07.wheel W v with
    | some i => match Mu07.wheel W x with
      | some j => (Mu07.carried W r).bind fun c => .ok { W with meshes := W.meshes ++ [⟨i, j, c.1, c.2⟩] }
      | none => .error 3
    | none => .error 3) else .error 6
  | _ => .error 2
def pHand_ (W : Works) : List Tok → R
  | [.name h, .name a, .num m, .num f] => named W h W.hands.length 12 (match goes W a with
    | some g => if 1 ≤ m ∧ m ≤ 1000 then (if 0 ≤ f ∧ f ≤ m - 1 then .ok { W with hands := W.hands ++ [⟨h, g, m, f⟩] } else .error 5) else .error 5
    | none => .error 3)
  | _ => .error 2
def pJump (W : Works) : List Tok → R
  | [.name s, .name a, .num n] => named W s W.stars.length 6 (match goes W a with
    | some g => if 2 ≤ n ∧ n ≤ 400 then .ok { W with stars := W.stars ++ [⟨s, g, n⟩] } else .error 5
    | none => .error 3)
  | _ => .error 2
def pCount (W : Works) : List Tok → R
  | .name s :: .name a :: l => match Mu07.numbers l with
    | some l => if l.isEmpty = true then .error 2 else named W s W.strikers.length 6 (match goes W a with
      | some g => if 1 ≤ l.length ∧ l.length ≤ 24 then (if l.any (fun (n : Nat) => decide (99 < n)) = true then .error 5 else .ok { W with strikers := W.strikers ++ [⟨s, g, l, none⟩] }) else .error 5
      | none => .error 3)
    | none => .error 2
  | _ => .error 2
def pRack (W : Works) : List Tok → R
  | [.name s, .name a, .name h] => named W s W.strikers.length 6 (match goes W a with
    | some g => match Mu07.hand W h with
      | some i => .ok { W with strikers := W.strikers ++ [⟨s, g, [], some i⟩] }
      | none => .error 3
    | none => .error 3)
  | _ => .error 2
def pCalendar (W : Works) : List Tok → R
  | [.name c, .name a, .num y, .num m, .num d] => named W c W.calendars.length 2 (match goes W a with
    | some g => if 1 ≤ y ∧ y ≤ 9999 then (if 1 ≤ m ∧ m ≤ 12 then (if 1 ≤ d ∧ d ≤ daysOf (trueLeap (y : Int)) m then .ok { W with calendars := W.calendars ++ [⟨c, g, ⟨(y : Int), m, d⟩⟩] } else .error 5) else .error 5) else .error 5
    | none => .error 3)
  | _ => .error 2
def pLine_ (W : Works) (w : Bytes) (r : List Tok) : R :=
  if w = ascii "arbor" then pArbor W r else if w = ascii "drive" then pDrive W r else if w = ascii "wheel" then pWheel_ W r else if w = ascii "mesh" then pMesh_ W r else if w = ascii "hand" then pHand_ W r
  else if w = ascii "jump" then pJump W r else if w = ascii "count" then pCount W r else if w = ascii "rack" then pRack W r else if w = ascii "calendar" then pCalendar W r else .error 2
theorem put_line (W : Works) (w : Bytes) (r : List Tok) : Mu07.put W (.name w :: r) = pLine_ W w r := by
  unfold Mu07.put pLine_
  simp only
  by_cases h1 : w = ascii "arbor"
  · rw [if_pos h1, if_pos h1]
    unfold pArbor
    split
    · exact named_is _ _ _ _ _
    · split <;> first | rfl | (exfalso; simp_all; done)
  rw [if_neg h1, if_neg h1]
  by_cases h2 : w = ascii "drive"
  · rw [if_pos h2, if_pos h2]
    unfold pDrive
    split
    · rename_i a n
      dsimp only
      rw [known_bind]
      have ea : Mu07.arbor W a = indexOf W.arbors a := rfl
      rw [ea]
      cases indexOf W.arbors a with
      | none => rfl
      | some i =>
        dsimp only
        by_cases hd : W.drive.isSome = true
        · rw [if_pos hd, if_pos hd]
          rfl
        · rw [if_neg hd, if_neg hd]
          exact bounds_bind _ _ _ _
    · split <;> first | rfl | (exfalso; simp_all; done)
  rw [if_neg h2, if_neg h2]
  by_cases h3 : w = ascii "wheel"
  · rw [if_pos h3, if_pos h3]
    unfold pWheel_
    split
    · rename_i v a n
      dsimp only
      rw [named_is]
      congr 1
      rw [known_bind]
      have ea : Mu07.arbor W a = indexOf W.arbors a := rfl
      rw [ea]
      cases indexOf W.arbors a with
      | none => rfl
      | some i => exact bounds_bind _ _ _ _
    · split <;> first | rfl | (exfalso; simp_all; done)
  rw [if_neg h3, if_neg h3]
  by_cases h4 : w = ascii "mesh"
  · rw [if_pos h4, if_pos h4]
    unfold pMesh_
    split
    · rename_i v x r
      dsimp only
      unfold Mu07.room
      by_cases hm : W.meshes.length < 24
      · rw [if_pos hm, if_pos hm]
        show (if kept.contains v = true ∨ kept.contains x = true then _ else _) = _
        by_cases hk : kept.contains v = true ∨ kept.contains x = true
        · rw [if_pos hk, if_pos hk]
          rfl
        · rw [if_neg hk, if_neg hk]
          show (Mu07.known (Mu07.wheel W v) >>= _) = _
          rw [known_bind]
          cases Mu07.wheel W v with
          | none => rfl
          | some i =>
            show (Mu07.known (Mu07.wheel W x) >>= _) = _
            rw [known_bind]
            cases Mu07.wheel W x with
            | none => rfl
            | some j => rfl
      · rw [if_neg hm, if_neg hm]
        rfl
    · split <;> first | rfl | (exfalso; simp_all; done)
  rw [if_neg h4, if_neg h4]
  by_cases h5 : w = ascii "hand"
  · rw [if_pos h5, if_pos h5]
    unfold pHand_
    split
    · rename_i h a m f
      dsimp only
      rw [named_is]
      congr 1
      rw [known_bind]
      cases goes W a with
      | none => rfl
      | some g =>
        dsimp only
        rw [bounds_bind]
        congr 1
        exact bounds_bind _ _ _ _
    · rename_i hx
      split
      · exact (hx _ _ _ _ rfl).elim
      all_goals first | rfl | (exfalso; simp_all; done)
  rw [if_neg h5, if_neg h5]
  by_cases h6 : w = ascii "jump"
  · rw [if_pos h6, if_pos h6]
    unfold pJump
    split
    · rename_i s a n
      dsimp only
      rw [named_is]
      congr 1
      rw [known_bind]
      cases goes W a with
      | none => rfl
      | some g => exact bounds_bind _ _ _ _
    · split <;> first | rfl | (exfalso; simp_all; done)
  rw [if_neg h6, if_neg h6]
  by_cases h7 : w = ascii "count"
  · rw [if_pos h7, if_pos h7]
    unfold pCount
    split
    · rename_i s a l
      dsimp only
      cases Mu07.numbers l with
      | none => rfl
      | some l =>
        dsimp only
        by_cases he : l.isEmpty = true
        · rw [if_pos he, if_pos he]
          rfl
        · rw [if_neg he, if_neg he]
          show (do Mu07.fresh W s; Mu07.room W.strikers.length 6; _) = _
          rw [named_is]
          congr 1
          rw [known_bind]
          cases goes W a with
          | none => rfl
          | some g =>
            dsimp only
            rw [bounds_bind]
            congr 1
    · split <;> first | rfl | (exfalso; simp_all; done)
  rw [if_neg h7, if_neg h7]
  by_cases h8 : w = ascii "rack"
  · rw [if_pos h8, if_pos h8]
    unfold pRack
    split
    · rename_i s a h
      dsimp only
      rw [named_is]
      congr 1
      rw [known_bind]
      cases goes W a with
      | none => rfl
      | some g =>
        dsimp only
        rw [known_bind]
        cases Mu07.hand W h <;> rfl
    · split <;> first | rfl | (exfalso; simp_all; done)
  rw [if_neg h8, if_neg h8]
  by_cases h9 : w = ascii "calendar"
  · rw [if_pos h9, if_pos h9]
    unfold pCalendar
    split
    · rename_i c a y m d
      dsimp only
      rw [named_is]
      congr 1
      rw [known_bind]
      cases goes W a with
      | none => rfl
      | some g =>
        dsimp only
        rw [bounds_bind]
        congr 1
        rw [bounds_bind]
        congr 1
        exact bounds_bind _ _ _ _
    · rename_i hx
      split
      all_goals first | exact (hx _ _ _ _ _ rfl).elim | rfl | (exfalso; simp_all; done)
  rw [if_neg h9, if_neg h9]
  rfl
end Cw

/-! Reading, in plain Lean: the program's reading of words is the specification's. -/
namespace Cw
open Mu07 (Bytes Tok Works Goes small digit numberOf ascii kept there indexOf goes daysOf trueLeap)
def fits : List Bytes → List Nat → Bool
  | [], [] => true
  | a :: l, f :: r => !(f == 110 && !isName a) && !(f == 57 && !isNumber a) && fits l r
  | _, _ => false
theorem fits_is : ∀ (ws : List Bytes) (f : List Nat), fits ws f = (decide (ws.length = f.length) && (List.range f.length).all fun i => !(f.getD i 0 == 110 && !isName (ws.getD i [])) && !(f.getD i 0 == 57 && !isNumber (ws.getD i [])))
  | [], [] => rfl
  | a :: l, [] => by simp [fits]
  | [], f :: r => by simp [fits]
  | a :: l, f :: r => by
    have ih := fits_is l r
    show (!(f == 110 && !isName a) && !(f == 57 && !isNumber a) && fits l r) = _
    rw [ih, List.length_cons, List.length_cons, List.range_succ_eq_map, List.all_cons, List.all_map]
    have e1 : decide (l.length + 1 = r.length + 1) = decide (l.length = r.length) := by
      by_cases h : l.length = r.length
      · rw [decide_eq_true h, decide_eq_true (by omega)]
      · rw [decide_eq_false h, decide_eq_false (by omega)]
    rw [e1]
    have e2 : ((fun i => !((f :: r).getD i 0 == 110 && !isName ((a :: l).getD i [])) && !((f :: r).getD i 0 == 57 && !isNumber ((a :: l).getD i []))) ∘ Nat.succ) = fun i => !(r.getD i 0 == 110 && !isName (l.getD i [])) && !(r.getD i 0 == 57 && !isNumber (l.getD i [])) := rfl
    rw [e2]
    simp only [List.getD_cons_zero]
    generalize (!(f == 110 && !isName a) && !(f == 57 && !isNumber a)) = x
    generalize decide (l.length = r.length) = y
    generalize (List.all _ _) = z
    cases x <;> cases y <;> cases z <;> rfl
theorem formOk_is (w : Bytes) (ws : List Bytes) (f : List Nat) : formOk (w :: ws) f = fits ws f := by
  rw [fits_is]
  unfold formOk
  have e1 : decide ((w :: ws).length = f.length + 1) = decide (ws.length = f.length) := by
    rw [List.length_cons]
    by_cases h : ws.length = f.length
    · rw [decide_eq_true h, decide_eq_true (by omega)]
    · rw [decide_eq_false h, decide_eq_false (by omega)]
  rw [e1]
  rfl
theorem fits_len {ws : List Bytes} {f : List Nat} (h : ws.length ≠ f.length) : fits ws f = false := by
  rw [fits_is, decide_eq_false h, Bool.false_and]
/-! ### a word that can be -/
theorem num_lt : ∀ (l : List Nat), l.all digit = true → numberOf l < 10 ^ l.length := by
  have g : ∀ (l : List Nat) (a : Nat), l.all digit = true → l.foldl (fun (n c : Nat) => 10 * n + (c - 48)) a < (a + 1) * 10 ^ l.length := by
    intro l
    induction l with
    | nil => intro a _; simp
    | cons c r ih =>
      intro a h
      rw [List.all_cons, Bool.and_eq_true] at h
      have hc := h.1
      unfold digit at hc
      rw [Bool.and_eq_true] at hc
      have h1 := of_decide_eq_true hc.2
      rw [List.foldl_cons, List.length_cons]
      refine Nat.lt_of_lt_of_le (ih _ h.2) ?_
      rw [Nat.pow_succ, Nat.mul_comm (10 ^ r.length) 10, ← Nat.mul_assoc]
      exact Nat.mul_le_mul_right _ (by omega)
  intro l h
  have := g l 0 h
  simpa [numberOf] using this
theorem wk {a : Bytes} (h : (isName a || isNumber a) = true) : (isName a = true ∧ isNumber a = false ∧ tokOf a = .name a) ∨ (isName a = false ∧ isNumber a = true ∧ tokOf a = .num (numberOf a) ∧ numberOf a < 1000000000) := by
  by_cases hs : small (a.getD 0 0) = true
  · left
    have hn : isNumber a = false := by
      cases a with
      | nil => exact absurd hs (by decide)
      | cons c r =>
        unfold isNumber
        have : (c :: r).all digit = false := List.all_eq_false.mpr ⟨c, List.mem_cons_self .., by rw [small_not_digit (c := c) hs]; decide⟩
        rw [this, Bool.and_false]
    rw [hn, Bool.or_false] at h
    exact ⟨h, hn, if_pos hs⟩
  · right
    have hs' : small (a.getD 0 0) = false := by simpa using hs
    have hn : isName a = false := by
      unfold isName
      rw [hs']
      simp
    rw [hn, Bool.false_or] at h
    refine ⟨hn, h, if_neg hs, ?_⟩
    unfold isNumber at h
    rw [Bool.and_eq_true] at h
    have hl : a.length ≤ 9 := by
      have h1 := h.1
      by_cases hh : 9 < a.length
      · rw [decide_eq_true hh] at h1
        exact absurd h1 (by simp)
      · omega
    refine Nat.lt_of_lt_of_le (num_lt a h.2) ?_
    exact Nat.pow_le_pow_right (n := 10) (by decide) hl
theorem canBe_iff {w : Bytes} {ws : List Bytes} : canBe (w :: ws) = true ↔ (isName w || isNumber w) = true ∧ canBe ws = true := by rw [canBe_cons, Bool.and_eq_true]
/-! ### new names -/
theorem withName_good {W : Works} {w : Bytes} {l : List Bytes} {f : List Nat} {n most : Nat} {k : R} (h : fits l f = true) : withName W (w :: l) f n most k = named W (wd (w :: l) 1) n most k := by
  have e : newName W (w :: l) f n most = if kept.contains (wd (w :: l) 1) = true then 2 else if there W (wd (w :: l) 1) = true then 4 else if most ≤ n then 6 else 0 := by
    unfold newName
    rw [formOk_is, h]
    rfl
  unfold withName named
  rw [e]
  by_cases h1 : kept.contains (wd (w :: l) 1) = true
  · rw [if_pos h1, if_pos h1]
    rfl
  · rw [if_neg h1, if_neg h1]
    by_cases h2 : there W (wd (w :: l) 1) = true
    · rw [if_pos h2, if_pos h2]
      rfl
    · rw [if_neg h2, if_neg h2]
      by_cases h3 : n < most
      · have h4 : ¬ most ≤ n := by omega
        rw [if_pos h3, if_neg h4]
        rfl
      · have h4 : most ≤ n := by omega
        rw [if_neg h3, if_pos h4]
        rfl
theorem withName_bad {W : Works} {w : Bytes} {l : List Bytes} {f : List Nat} {n most : Nat} {k : R} (h : fits l f = false) : withName W (w :: l) f n most k = .error 2 := by
  unfold withName newName
  rw [formOk_is, h]
  rfl
theorem named_congr {W : Works} {a : Bytes} {n most : Nat} {k k' : R} (h : k = k') : named W a n most k = named W a n most k' := by rw [h]
theorem rArbor_is (W : Works) (w : Bytes) : ∀ l : List Bytes, canBe l = true → rArbor W (w :: l) = pArbor W (l.map tokOf)
  | [], _ => withName_bad rfl
  | [a], h => by
    obtain ⟨ha, _⟩ := canBe_iff.mp h
    rcases wk ha with ⟨n1, n2, n3⟩ | ⟨n1, n2, n3, _⟩
    · have hf : fits [a] [110] = true := by simp [fits, n1, n2]
      show withName _ _ _ _ _ _ = pArbor W [tokOf a]
      rw [withName_good hf, n3]
      rfl
    · have hf : fits [a] [110] = false := by simp [fits, n1, n2]
      show withName _ _ _ _ _ _ = pArbor W [tokOf a]
      rw [withName_bad hf, n3]
      rfl
  | a :: b :: l, _ => by
    have e : rArbor W (w :: a :: b :: l) = .error 2 := withName_bad (fits_len (by simp))
    rw [e]
    symm
    unfold pArbor
    split
    · rename_i x hx
      simp at hx
    · rfl
theorem rDrive_is (W : Works) (w : Bytes) : ∀ l : List Bytes, canBe l = true → rDrive W (w :: l) = pDrive W (l.map tokOf) := by
  have bad : ∀ l, fits l [110, 57] = false → rDrive W (w :: l) = .error 2 := fun l h => by
    unfold rDrive
    rw [formOk_is, h]
    rfl
  intro l h
  by_cases hl : l.length = 2
  · match l, hl with
    | [a, b], _ =>
      obtain ⟨ha, h⟩ := canBe_iff.mp h
      obtain ⟨hb, _⟩ := canBe_iff.mp h
      show _ = pDrive W [tokOf a, tokOf b]
      rcases wk ha with ⟨n1, n2, n3⟩ | ⟨n1, n2, n3, _⟩ <;> rcases wk hb with ⟨m1, m2, m3⟩ | ⟨m1, m2, m3, m4⟩ <;> rw [n3, m3]
      · exact bad _ (by simp [fits, n1, n2, m1, m2])
      · have hf : fits [a, b] [110, 57] = true := by simp [fits, n1, n2, m1, m2]
        unfold rDrive
        rw [formOk_is, hf]
        show (match indexOf W.arbors a with | none => _ | some i => _) = (match indexOf W.arbors a with | some i => _ | none => _)
        cases indexOf W.arbors a with
        | none => rfl
        | some i =>
          show (if W.drive.isSome = true then _ else if numberOf b < 1 then _ else _) = (if W.drive.isSome = true then _ else if 1 ≤ numberOf b ∧ numberOf b ≤ 999999999 then _ else _)
          by_cases h1 : W.drive.isSome = true
          · rw [if_pos h1, if_pos h1]
          · rw [if_neg h1, if_neg h1]
            by_cases h2 : numberOf b < 1
            · rw [if_pos h2, if_neg (by omega)]
            · rw [if_neg h2, if_pos (by omega)]
              rfl
      · exact bad _ (by simp [fits, n1, n2, m1, m2])
      · exact bad _ (by simp [fits, n1, n2, m1, m2])
  · rw [bad l (fits_len hl)]
    symm
    unfold pDrive
    split
    · rename_i x y hx
      have := congrArg List.length hx
      simp at this
      omega
    · rfl
theorem rWheel_is (W : Works) (w : Bytes) : ∀ l : List Bytes, canBe l = true → rWheel W (w :: l) = pWheel_ W (l.map tokOf) := by
  intro l h
  by_cases hl : l.length = 3
  · match l, hl with
    | [a, b, c], _ =>
      obtain ⟨ha, h⟩ := canBe_iff.mp h
      obtain ⟨hb, h⟩ := canBe_iff.mp h
      obtain ⟨hc, _⟩ := canBe_iff.mp h
      show _ = pWheel_ W [tokOf a, tokOf b, tokOf c]
      rcases wk ha with ⟨n1, n2, n3⟩ | ⟨n1, n2, n3, _⟩ <;> rcases wk hb with ⟨m1, m2, m3⟩ | ⟨m1, m2, m3, _⟩ <;> rcases wk hc with ⟨o1, o2, o3⟩ | ⟨o1, o2, o3, _⟩ <;> rw [n3, m3, o3]
      case inl.inl.inr =>
        refine (withName_good (by simp [fits, n1, n2, m1, m2, o1, o2])).trans (named_congr ?_)
        show (match indexOf W.arbors b with | none => _ | some i => _) = (match indexOf W.arbors b with | some i => _ | none => _)
        cases indexOf W.arbors b with
        | none => rfl
        | some i =>
          show (if numberOf c < 6 ∨ 400 < numberOf c then _ else _) = (if 6 ≤ numberOf c ∧ numberOf c ≤ 400 then _ else _)
          by_cases h2 : numberOf c < 6 ∨ 400 < numberOf c
          · rw [if_pos h2, if_neg (by omega)]
          · rw [if_neg h2, if_pos (by omega)]
            rfl
      all_goals exact withName_bad (by simp [fits, n1, n2, m1, m2, o1, o2])
  · refine (withName_bad (fits_len hl)).trans ?_
    symm
    unfold pWheel_
    split
    · rename_i x y z hx
      have := congrArg List.length hx
      simp at this
      omega
    · rfl
theorem rJump_is (W : Works) (w : Bytes) : ∀ l : List Bytes, canBe l = true → rJump W (w :: l) = pJump W (l.map tokOf) := by
  intro l h
  by_cases hl : l.length = 3
  · match l, hl with
    | [a, b, c], _ =>
      obtain ⟨ha, h⟩ := canBe_iff.mp h
      obtain ⟨hb, h⟩ := canBe_iff.mp h
      obtain ⟨hc, _⟩ := canBe_iff.mp h
      show _ = pJump W [tokOf a, tokOf b, tokOf c]
      rcases wk ha with ⟨n1, n2, n3⟩ | ⟨n1, n2, n3, _⟩ <;> rcases wk hb with ⟨m1, m2, m3⟩ | ⟨m1, m2, m3, _⟩ <;> rcases wk hc with ⟨o1, o2, o3⟩ | ⟨o1, o2, o3, _⟩ <;> rw [n3, m3, o3]
      case inl.inl.inr =>
        refine (withName_good (by simp [fits, n1, n2, m1, m2, o1, o2])).trans (named_congr ?_)
        show (match goes W b with | none => _ | some i => _) = (match goes W b with | some i => _ | none => _)
        cases goes W b with
        | none => rfl
        | some i =>
          show (if numberOf c < 2 ∨ 400 < numberOf c then _ else _) = (if 2 ≤ numberOf c ∧ numberOf c ≤ 400 then _ else _)
          by_cases h2 : numberOf c < 2 ∨ 400 < numberOf c
          · rw [if_pos h2, if_neg (by omega)]
          · rw [if_neg h2, if_pos (by omega)]
            rfl
      all_goals exact withName_bad (by simp [fits, n1, n2, m1, m2, o1, o2])
  · refine (withName_bad (fits_len hl)).trans ?_
    symm
    unfold pJump
    split
    · rename_i x y z hx
      have := congrArg List.length hx
      simp at this
      omega
    · rfl
theorem rHand_is (W : Works) (w : Bytes) : ∀ l : List Bytes, canBe l = true → rHand W (w :: l) = pHand_ W (l.map tokOf) := by
  intro l h
  by_cases hl : l.length = 4
  · match l, hl with
    | [a, b, c, d], _ =>
      obtain ⟨ha, h⟩ := canBe_iff.mp h
      obtain ⟨hb, h⟩ := canBe_iff.mp h
      obtain ⟨hc, h⟩ := canBe_iff.mp h
      obtain ⟨hd, _⟩ := canBe_iff.mp h
      show _ = pHand_ W [tokOf a, tokOf b, tokOf c, tokOf d]
      rcases wk ha with ⟨n1, n2, n3⟩ | ⟨n1, n2, n3, _⟩ <;> rcases wk hb with ⟨m1, m2, m3⟩ | ⟨m1, m2, m3, _⟩ <;> rcases wk hc with ⟨o1, o2, o3⟩ | ⟨o1, o2, o3, _⟩ <;> rcases wk hd with ⟨p1, p2, p3⟩ | ⟨p1, p2, p3, _⟩ <;> rw [n3, m3, o3, p3]
      case inl.inl.inr.inr =>
        refine (withName_good (by simp [fits, n1, n2, m1, m2, o1, o2, p1, p2])).trans (named_congr ?_)
        show (match goes W b with | none => _ | some i => _) = (match goes W b with | some i => _ | none => _)
        cases goes W b with
        | none => rfl
        | some i =>
          show (if numberOf c < 1 ∨ 1000 < numberOf c ∨ numberOf c ≤ numberOf d then _ else _) = (if 1 ≤ numberOf c ∧ numberOf c ≤ 1000 then (if 0 ≤ numberOf d ∧ numberOf d ≤ numberOf c - 1 then _ else _) else _)
          by_cases h1 : 1 ≤ numberOf c ∧ numberOf c ≤ 1000
          · rw [if_pos h1]
            by_cases h2 : 0 ≤ numberOf d ∧ numberOf d ≤ numberOf c - 1
            · rw [if_pos h2, if_neg (by omega)]
              rfl
            · rw [if_neg h2, if_pos (by omega)]
          · rw [if_neg h1, if_pos (by omega)]
      all_goals exact withName_bad (by simp [fits, n1, n2, m1, m2, o1, o2, p1, p2])
  · refine (withName_bad (fits_len hl)).trans ?_
    symm
    unfold pHand_
    split
    · rename_i x y z u hx
      have := congrArg List.length hx
      simp at this
      omega
    · rfl
theorem rRack_is (W : Works) (w : Bytes) : ∀ l : List Bytes, canBe l = true → rRack W (w :: l) = pRack W (l.map tokOf) := by
  intro l h
  by_cases hl : l.length = 3
  · match l, hl with
    | [a, b, c], _ =>
      obtain ⟨ha, h⟩ := canBe_iff.mp h
      obtain ⟨hb, h⟩ := canBe_iff.mp h
      obtain ⟨hc, _⟩ := canBe_iff.mp h
      show _ = pRack W [tokOf a, tokOf b, tokOf c]
      rcases wk ha with ⟨n1, n2, n3⟩ | ⟨n1, n2, n3, _⟩ <;> rcases wk hb with ⟨m1, m2, m3⟩ | ⟨m1, m2, m3, _⟩ <;> rcases wk hc with ⟨o1, o2, o3⟩ | ⟨o1, o2, o3, _⟩ <;> rw [n3, m3, o3]
      case inl.inl.inl =>
        refine (withName_good (by simp [fits, n1, n2, m1, m2, o1, o2])).trans (named_congr ?_)
        show (match goes W b, Mu07.hand W c with | some g, some i => _ | _, _ => _) = _
        have e2 : wd [w, a, b, c] 2 = b := rfl
        have e3 : wd [w, a, b, c] 3 = c := rfl
        cases hg : goes W b with
        | none => rfl
        | some i => cases Mu07.hand W c <;> rfl
      all_goals exact withName_bad (by simp [fits, n1, n2, m1, m2, o1, o2])
  · refine (withName_bad (fits_len hl)).trans ?_
    symm
    unfold pRack
    split
    · rename_i x y z hx
      have := congrArg List.length hx
      simp at this
      omega
    · rfl
theorem rCalendar_is (W : Works) (w : Bytes) : ∀ l : List Bytes, canBe l = true → rCalendar W (w :: l) = pCalendar W (l.map tokOf) := by
  intro l h
  by_cases hl : l.length = 5
  · match l, hl with
    | [a, b, c, d, e], _ =>
      obtain ⟨ha, h⟩ := canBe_iff.mp h
      obtain ⟨hb, h⟩ := canBe_iff.mp h
      obtain ⟨hc, h⟩ := canBe_iff.mp h
      obtain ⟨hd, h⟩ := canBe_iff.mp h
      obtain ⟨he, _⟩ := canBe_iff.mp h
      show _ = pCalendar W [tokOf a, tokOf b, tokOf c, tokOf d, tokOf e]
      rcases wk ha with ⟨n1, n2, n3⟩ | ⟨n1, n2, n3, _⟩ <;> rcases wk hb with ⟨m1, m2, m3⟩ | ⟨m1, m2, m3, _⟩ <;> rcases wk hc with ⟨o1, o2, o3⟩ | ⟨o1, o2, o3, _⟩ <;> rcases wk hd with ⟨p1, p2, p3⟩ | ⟨p1, p2, p3, _⟩ <;> rcases wk he with ⟨q1, q2, q3⟩ | ⟨q1, q2, q3, _⟩ <;> rw [n3, m3, o3, p3, q3]
      case inl.inl.inr.inr.inr =>
        refine (withName_good (by simp [fits, n1, n2, m1, m2, o1, o2, p1, p2, q1, q2])).trans (named_congr ?_)
        show (match goes W b with | none => _ | some i => _) = (match goes W b with | some i => _ | none => _)
        cases goes W b with
        | none => rfl
        | some i =>
          show (if numberOf c < 1 ∨ 9999 < numberOf c ∨ numberOf d < 1 ∨ 12 < numberOf d then _ else if numberOf e < 1 ∨ daysOf (trueLeap (numberOf c : Int)) (numberOf d) < numberOf e then _ else _) = (if 1 ≤ numberOf c ∧ numberOf c ≤ 9999 then (if 1 ≤ numberOf d ∧ numberOf d ≤ 12 then (if 1 ≤ numberOf e ∧ numberOf e ≤ daysOf (trueLeap (numberOf c : Int)) (numberOf d) then _ else _) else _) else _)
          by_cases h1 : 1 ≤ numberOf c ∧ numberOf c ≤ 9999
          · rw [if_pos h1]
            by_cases h2 : 1 ≤ numberOf d ∧ numberOf d ≤ 12
            · rw [if_pos h2, if_neg (by omega)]
              by_cases h3 : 1 ≤ numberOf e ∧ numberOf e ≤ daysOf (trueLeap (numberOf c : Int)) (numberOf d)
              · rw [if_pos h3, if_neg (by omega)]
                rfl
              · rw [if_neg h3, if_pos (by omega)]
            · rw [if_neg h2, if_pos (by omega)]
          · rw [if_neg h1, if_pos (by omega)]
      all_goals exact withName_bad (by simp [fits, n1, n2, m1, m2, o1, o2, p1, p2, q1, q2])
  · refine (withName_bad (fits_len hl)).trans ?_
    symm
    unfold pCalendar
    split
    · rename_i x y z u v hx
      have := congrArg List.length hx
      simp at this
      omega
    · rfl
theorem fits_nums : ∀ l : List Bytes, fits l (List.replicate l.length 57) = l.all isNumber
  | [] => rfl
  | a :: l => by
    show (!((57 : Nat) == 110 && !isName a) && !((57 : Nat) == 57 && !isNumber a) && fits l (List.replicate l.length 57)) = _
    rw [fits_nums l, List.all_cons]
    cases isNumber a <;> simp
theorem numbers_is : ∀ l : List Bytes, canBe l = true → Mu07.numbers (l.map tokOf) = if l.all isNumber = true then some (l.map numberOf) else none
  | [], _ => rfl
  | a :: l, h => by
    obtain ⟨ha, h⟩ := canBe_iff.mp h
    have ih := numbers_is l h
    show Mu07.numbers (tokOf a :: l.map tokOf) = _
    rcases wk ha with ⟨n1, n2, n3⟩ | ⟨n1, n2, n3, _⟩
    · rw [n3, List.all_cons, n2]
      rfl
    · rw [n3, List.all_cons, n2, Bool.true_and]
      show (Mu07.numbers (l.map tokOf)).map _ = _
      rw [ih]
      by_cases hh : l.all isNumber = true
      · rw [if_pos hh, if_pos hh]
        rfl
      · rw [if_neg hh, if_neg hh]
        rfl
theorem rCount_is (W : Works) (w : Bytes) : ∀ l : List Bytes, canBe l = true → rCount W (w :: l) = pCount W (l.map tokOf)
  | [], _ => withName_bad rfl
  | [a], h => by
    obtain ⟨ha, _⟩ := canBe_iff.mp h
    refine (withName_bad (f := countForm [w, a]) (fits_len (Nat.ne_of_beq_eq_false rfl))).trans ?_
    show _ = pCount W [tokOf a]
    rcases wk ha with ⟨n1, n2, n3⟩ | ⟨n1, n2, n3, _⟩ <;> rw [n3] <;> rfl
  | a :: b :: m, h => by
    obtain ⟨ha, h⟩ := canBe_iff.mp h
    obtain ⟨hb, hm⟩ := canBe_iff.mp h
    have cf : fits (a :: b :: m) (countForm (w :: a :: b :: m)) = (isName a && isName b && (!m.isEmpty && m.all isNumber)) := by
      show (!((110 : Nat) == 110 && !isName a) && !((110 : Nat) == 57 && !isNumber a) && (!((110 : Nat) == 110 && !isName b) && !((110 : Nat) == 57 && !isNumber b) && fits m (List.replicate (max 1 ((w :: a :: b :: m).length - 3)) 57))) = _
      have e : fits m (List.replicate (max 1 ((w :: a :: b :: m).length - 3)) 57) = (!m.isEmpty && m.all isNumber) := by
        cases m with
        | nil => rfl
        | cons x r =>
          have : max 1 ((w :: a :: b :: x :: r).length - 3) = (x :: r).length := by
            simp only [List.length_cons]
            omega
          rw [this, fits_nums]
          rfl
      rw [e]
      cases isName a <;> cases isName b <;> simp
    show _ = pCount W (tokOf a :: tokOf b :: m.map tokOf)
    have bad : (isName a && isName b && (!m.isEmpty && m.all isNumber)) = false → rCount W (w :: a :: b :: m) = .error 2 := fun hf => withName_bad (by rw [cf, hf])
    rcases wk ha with ⟨n1, n2, n3⟩ | ⟨n1, n2, n3, _⟩ <;> rcases wk hb with ⟨m1, m2, m3⟩ | ⟨m1, m2, m3, _⟩ <;> rw [n3, m3]
    · show _ = (match Mu07.numbers (m.map tokOf) with | some l => _ | none => _)
      rw [numbers_is m hm]
      by_cases hn : m.all isNumber = true
      · rw [if_pos hn]
        show _ = (if (m.map numberOf).isEmpty = true then _ else _)
        by_cases he : m = []
        · subst he
          rw [bad (by simp)]
          rfl
        · have he' : m.isEmpty = false := by
            cases m with
            | nil => exact absurd rfl he
            | cons x r => rfl
          have he2 : (m.map numberOf).isEmpty = false := by
            cases m with
            | nil => exact absurd rfl he
            | cons x r => rfl
          rw [if_neg (by rw [he2]; decide)]
          refine (withName_good (by rw [cf, n1, m1, he', hn]; rfl)).trans (named_congr ?_)
          show (match goes W b with | none => _ | some i => _) = (match goes W b with | some i => _ | none => _)
          cases goes W b with
          | none => rfl
          | some i =>
            show (if 24 < m.length ∨ (m.map numberOf).any (fun (n : Nat) => decide (99 < n)) = true then _ else _) = (if 1 ≤ (m.map numberOf).length ∧ (m.map numberOf).length ≤ 24 then (if (m.map numberOf).any (fun (n : Nat) => decide (99 < n)) = true then _ else _) else _)
            rw [List.length_map]
            have h1 : 1 ≤ m.length := by
              cases m with
              | nil => exact absurd rfl he
              | cons x r => simp
            generalize (m.map numberOf).any (fun (n : Nat) => decide (99 < n)) = any9
            by_cases h24 : m.length ≤ 24
            · have c1 : 1 ≤ m.length ∧ m.length ≤ 24 := ⟨h1, h24⟩
              cases any9 with
              | true =>
                have c2 : 24 < m.length ∨ true = true := Or.inr rfl
                rw [if_pos c1, if_pos c2]
                rfl
              | false =>
                have c2 : ¬ (24 < m.length ∨ false = true) := fun z => by
                  rcases z with z | z
                  · omega
                  · cases z
                simp only [if_pos c1, if_neg c2]
                rfl
            · have c1 : ¬ (1 ≤ m.length ∧ m.length ≤ 24) := fun z => h24 z.2
              have c2 : 24 < m.length ∨ any9 = true := Or.inl (by omega)
              simp only [if_neg c1, if_pos c2]
      · have hn' : m.all isNumber = false := by simpa using hn
        rw [if_neg hn, bad (by rw [hn']; simp)]
    all_goals
      rw [bad (by simp [n1, m1])]
      rfl
end Cw

/-! Reading, in plain Lean: meshes; the whole text; the works read are well-formed. -/
namespace Cw
open Mu07 (Bytes Tok Works Goes small digit numberOf ascii kept there indexOf goes daysOf trueLeap)
def cTail (W : Works) (ins : Bool) : List Tok → Except Nat (Bool × Option Nat)
  | [] => .ok (ins, none)
  | [.name o, .name a] => if o = ascii "on" then (match indexOf W.arbors a with | some c => .ok (ins, some c) | none => .error 3) else .error 2
  | _ => .error 2
theorem carried_is (W : Works) (l : List Tok) : Mu07.carried W l = cTail W (l.head? == some (.name (ascii "inside"))) (if (l.head? == some (.name (ascii "inside"))) = true then l.tail else l) := by
  unfold Mu07.carried
  dsimp only
  generalize (l.head? == some (.name (ascii "inside"))) = ins
  generalize (if ins = true then l.tail else l) = r
  unfold cTail
  split
  · rfl
  · rename_i o a
    by_cases h : o = ascii "on"
    · rw [if_pos h]
      show _ = (if o = ascii "on" then _ else _)
      rw [if_pos h]
      show (Mu07.known (indexOf W.arbors a) >>= fun c => _) = _
      cases indexOf W.arbors a <;> rfl
    · rw [if_neg h]
      show _ = (if o = ascii "on" then _ else _)
      rw [if_neg h]
      rfl
  · rename_i h1 h2
    split
    · exact (h1 rfl).elim
    · exact (h2 _ _ rfl).elim
    · rfl
theorem cTail_is (W : Works) (ins : Bool) (i j : Nat) : ∀ r : List Bytes, canBe r = true →
    (if 0 < r.length then (if r.length ≠ 2 ∨ wd r 0 ≠ ascii "on" ∨ isName (wd r 1) = false then (.error 2 : R) else match indexOf W.arbors (wd r 1) with | none => .error 3 | some c => .ok { W with meshes := W.meshes ++ [⟨i, j, ins, some c⟩] }) else .ok { W with meshes := W.meshes ++ [⟨i, j, ins, none⟩] })
    = (cTail W ins (r.map tokOf)).bind fun c => .ok { W with meshes := W.meshes ++ [⟨i, j, c.1, c.2⟩] }
  | [], _ => rfl
  | [o, a], h => by
    obtain ⟨ho, h⟩ := canBe_iff.mp h
    obtain ⟨ha, _⟩ := canBe_iff.mp h
    rw [if_pos (show 0 < [o, a].length by simp)]
    show (if 2 ≠ 2 ∨ o ≠ ascii "on" ∨ isName a = false then (.error 2 : R) else match indexOf W.arbors a with | none => _ | some c => _) = (cTail W ins [tokOf o, tokOf a]).bind _
    have non : isName (ascii "on") = true := by decide
    rcases wk ho with ⟨n1, n2, n3⟩ | ⟨n1, n2, n3, _⟩ <;> rcases wk ha with ⟨m1, m2, m3⟩ | ⟨m1, m2, m3, _⟩ <;> rw [n3, m3]
    · show _ = ((if o = ascii "on" then _ else _ : Except Nat (Bool × Option Nat))).bind _
      by_cases hh : o = ascii "on"
      · rw [if_pos hh, if_neg (by rintro (z | z | z); · exact z rfl
                                  · exact z hh
                                  · rw [m1] at z; cases z)]
        cases indexOf W.arbors a <;> rfl
      · rw [if_neg hh, if_pos (Or.inr (Or.inl hh))]
        rfl
    · rw [if_pos (Or.inr (Or.inr m1))]
      rfl
    · rw [if_pos (Or.inr (Or.inl fun z => by rw [z, non] at n1; cases n1))]
      rfl
    · rw [if_pos (Or.inr (Or.inr m1))]
      rfl
  | [o], h => by
    rw [if_pos (by simp), if_pos (Or.inl (by simp))]
    show _ = (cTail W ins [tokOf o]).bind _
    cases tokOf o <;> rfl
  | o :: a :: b :: r, h => by
    rw [if_pos (by simp), if_pos (Or.inl (by simp))]
    have : cTail W ins ((o :: a :: b :: r).map tokOf) = .error 2 := by
      unfold cTail
      split
      · rename_i hx
        simp at hx
      · rename_i hx
        simp at hx
      · rfl
    rw [this]
    rfl
theorem tok_inside {x : Bytes} (h : (isName x || isNumber x) = true) : (some (tokOf x) == some (Tok.name (ascii "inside"))) = decide (x = ascii "inside") := by
  have nin : isName (ascii "inside") = true := by decide
  rcases wk h with ⟨n1, n2, n3⟩ | ⟨n1, n2, n3, _⟩ <;> rw [n3]
  · by_cases hh : x = ascii "inside"
    · rw [decide_eq_true hh, hh]
      decide
    · rw [decide_eq_false hh]
      show (x == ascii "inside") = false
      simpa using hh
  · rw [decide_eq_false fun z => by rw [z, nin] at n1; cases n1]
    rfl
theorem rMeshRest_is (W : Works) (i j : Nat) : ∀ r : List Bytes, canBe r = true → rMeshRest W r i j = (Mu07.carried W (r.map tokOf)).bind fun c => .ok { W with meshes := W.meshes ++ [⟨i, j, c.1, c.2⟩] }
  | [], _ => by
    rw [carried_is]
    exact cTail_is W false i j [] rfl
  | x :: q, h => by
    obtain ⟨hx, hq⟩ := canBe_iff.mp h
    rw [carried_is]
    show _ = (cTail W (some (tokOf x) == some (Tok.name (ascii "inside"))) (if (some (tokOf x) == some (Tok.name (ascii "inside"))) = true then q.map tokOf else (x :: q).map tokOf)).bind _
    rw [tok_inside hx]
    unfold rMeshRest
    have e : (decide (0 < (x :: q).length) && decide (wd (x :: q) 0 = ascii "inside")) = decide (x = ascii "inside") := by
      rw [decide_eq_true (by simp : 0 < (x :: q).length), Bool.true_and]
      rfl
    rw [e]
    by_cases hh : x = ascii "inside"
    · rw [decide_eq_true hh]
      exact cTail_is W true i j q hq
    · rw [decide_eq_false hh]
      exact cTail_is W false i j (x :: q) h
theorem rMesh_is (W : Works) (w : Bytes) : ∀ l : List Bytes, canBe l = true → rMesh W (w :: l) = pMesh_ W (l.map tokOf)
  | [], _ => rfl
  | [a], h => by
    show rMesh W [w, a] = pMesh_ W [tokOf a]
    have e : rMesh W [w, a] = .error 2 := by
      unfold rMesh
      have : formOk ([w, a].take 3) [110, 110] = false := by
        show formOk [w, a] [110, 110] = false
        rw [formOk_is]
        exact fits_len (Nat.ne_of_beq_eq_false rfl)
      rw [this]
      rfl
    rw [e]
    cases tokOf a <;> rfl
  | a :: b :: r, h => by
    obtain ⟨ha, h⟩ := canBe_iff.mp h
    obtain ⟨hb, hr⟩ := canBe_iff.mp h
    show _ = pMesh_ W (tokOf a :: tokOf b :: r.map tokOf)
    have hf : formOk ((w :: a :: b :: r).take 3) [110, 110] = (isName a && isName b) := by
      show formOk [w, a, b] [110, 110] = _
      rw [formOk_is]
      unfold fits fits fits
      cases isName a <;> cases isName b <;> rfl
    unfold rMesh
    rw [hf]
    rcases wk ha with ⟨n1, n2, n3⟩ | ⟨n1, n2, n3, _⟩ <;> rcases wk hb with ⟨m1, m2, m3⟩ | ⟨m1, m2, m3, _⟩ <;> rw [n3, m3, n1, m1]
    · rw [if_neg (by decide)]
      show (if 24 ≤ W.meshes.length then _ else if (kept.contains a || kept.contains b) = true then _ else match Mu07.wheel W a, Mu07.wheel W b with | some i, some j => rMeshRest W r i j | _, _ => _) = (if W.meshes.length < 24 then (if kept.contains a = true ∨ kept.contains b = true then _ else _) else _)
      by_cases h1 : W.meshes.length < 24
      · have h1' : ¬ 24 ≤ W.meshes.length := by omega
        rw [if_pos h1, if_neg h1']
        by_cases h2 : kept.contains a = true ∨ kept.contains b = true
        · have h2' : (kept.contains a || kept.contains b) = true := Bool.or_eq_true_iff.mpr h2
          rw [if_pos h2, if_pos h2']
        · have h2' : ¬ (kept.contains a || kept.contains b) = true := fun z => h2 (Bool.or_eq_true_iff.mp z)
          rw [if_neg h2, if_neg h2']
          cases Mu07.wheel W a with
          | none => rfl
          | some i =>
            cases Mu07.wheel W b with
            | none => rfl
            | some j => exact rMeshRest_is W i j r hr
      · have h1' : 24 ≤ W.meshes.length := by omega
        rw [if_neg h1, if_pos h1']
    all_goals rfl
theorem rWords_is (W : Works) (w : Bytes) (l : List Bytes) (h : canBe (w :: l) = true) : rWords W (w :: l) = Mu07.put W ((w :: l).map tokOf) := by
  obtain ⟨hw, hl⟩ := canBe_iff.mp h
  show _ = Mu07.put W (tokOf w :: l.map tokOf)
  have e : ∀ X : R, rWords W (w :: l) = (if w = ascii "arbor" then rArbor W (w :: l) else if w = ascii "drive" then rDrive W (w :: l) else if w = ascii "wheel" then rWheel W (w :: l) else if w = ascii "mesh" then rMesh W (w :: l) else if w = ascii "jump" then rJump W (w :: l)
  else if w = ascii "hand" then rHand W (w :: l) else if w = ascii "count" then rCount W (w :: l) else if w = ascii "rack" then rRack W (w :: l) else if w = ascii "calendar" then rCalendar W (w :: l) else .error 2) := fun _ => rfl
  rw [e (.error 0)]
  rcases wk hw with ⟨n1, n2, n3⟩ | ⟨n1, n2, n3, _⟩ <;> rw [n3]
  · rw [put_line]
    unfold pLine_
    rw [rArbor_is W w l hl, rDrive_is W w l hl, rWheel_is W w l hl, rMesh_is W w l hl, rJump_is W w l hl, rHand_is W w l hl, rCount_is W w l hl, rRack_is W w l hl, rCalendar_is W w l hl]
    by_cases h1 : w = ascii "hand"
    · subst h1
      rfl
    · rw [if_neg h1]
      by_cases h2 : w = ascii "jump"
      · subst h2
        rfl
      · rw [if_neg h2]
        simp only [if_neg h1, if_neg h2]
  · have ne : ∀ s : Bytes, isName s = true → w ≠ s := fun s hs z => by
      rw [z, hs] at n1
      cases n1
    rw [if_neg (ne _ (by decide)), if_neg (ne _ (by decide)), if_neg (ne _ (by decide)), if_neg (ne _ (by decide)), if_neg (ne _ (by decide)), if_neg (ne _ (by decide)), if_neg (ne _ (by decide)), if_neg (ne _ (by decide)), if_neg (ne _ (by decide))]
    rfl
/-- what the program does with the words of a line -/
def rLine (W : Works) (ws : List Bytes) : R := if canBe ws = true then rWords W ws else .error 1
theorem readFrom_cons (W : Works) (n : Nat) (l : Bytes) (r : List Bytes) : Mu07.readFrom W n (l :: r) = if 0 < (wordsB l).length ∧ l.getD 0 0 ≠ 35 then (match rLine W (wordsB l) with | .error k => .error (n, k) | .ok X => Mu07.readFrom X (n + 1) r) else Mu07.readFrom W (n + 1) r := by
  have e : Mu07.readFrom W n (l :: r) = if l.head? = some 35 then Mu07.readFrom W (n + 1) r else match Mu07.toks (l.length + 1) l with
    | .error k => .error (n, k)
    | .ok [] => Mu07.readFrom W (n + 1) r
    | .ok t => match Mu07.put W t with
      | .error k => .error (n, k)
      | .ok X => Mu07.readFrom X (n + 1) r := rfl
  rw [e, toks_is l.length l (l.length + 1) (Nat.le_refl _) (by omega)]
  by_cases h1 : l.head? = some 35
  · have : ¬ (0 < (wordsB l).length ∧ l.getD 0 0 ≠ 35) := fun z => by
      cases l with
      | nil => cases h1
      | cons c q =>
        have : c = 35 := by simpa using h1
        exact z.2 this
    rw [if_pos h1, if_neg this]
  · rw [if_neg h1]
    unfold toksOf
    cases hw : wordsB l with
    | nil => rfl
    | cons w ws =>
      have c2 : 0 < (w :: ws).length ∧ l.getD 0 0 ≠ 35 := ⟨by simp, fun z => by
        cases l with
        | nil => exact absurd z (by decide)
        | cons c q => exact h1 (by rw [← z]; rfl)⟩
      rw [if_pos c2]
      unfold rLine
      by_cases hc : canBe (w :: ws) = true
      · rw [if_pos hc, if_pos hc, rWords_is W w ws hc]
        rfl
      · rw [if_neg hc, if_neg hc]
/-! ### well-formed -/
theorem goes_mono {W X : Works} (h1 : W.arbors.length ≤ X.arbors.length) (h2 : W.stars.length ≤ X.stars.length) {g : Goes} (h : GoesOk W g) : GoesOk X g := by
  cases g with
  | arbor i => exact Nat.lt_of_lt_of_le h h1
  | star i => exact Nat.lt_of_lt_of_le h h2
theorem index_lt {l : List Bytes} {a : Bytes} {i : Nat} (h : indexOf l a = some i) : i < l.length := by
  unfold indexOf at h
  exact (List.findIdx?_eq_some_iff_getElem.mp h).1
theorem goes_ok {W : Works} {a : Bytes} {g : Goes} (h : goes W a = some g) : GoesOk W g := by
  have hg : goes W a = match indexOf W.arbors a with | some i => some (.arbor i) | none => (Mu07.star W a).map Goes.star := rfl
  rw [hg] at h
  cases hi : indexOf W.arbors a with
  | some i =>
    rw [hi] at h
    cases h
    exact index_lt hi
  | none =>
    rw [hi] at h
    have h : (Mu07.star W a).map Goes.star = some g := h
    cases hs : Mu07.star W a with
    | none =>
      rw [hs] at h
      cases h
    | some j =>
      rw [hs] at h
      cases h
      have := index_lt hs
      rwa [List.length_map] at this
theorem hand_lt {W : Works} {a : Bytes} {i : Nat} (h : Mu07.hand W a = some i) : i < W.hands.length := by
  have := index_lt h
  rwa [List.length_map] at this
theorem wheel_lt {W : Works} {a : Bytes} {i : Nat} (h : Mu07.wheel W a = some i) : i < W.wheels.length := by
  have := index_lt h
  rwa [List.length_map] at this
theorem named_ok {W X : Works} {a : Bytes} {n most : Nat} {k : R} (h : named W a n most k = .ok X) : n < most ∧ k = .ok X := by
  unfold named at h
  split at h
  · cases h
  · split at h
    · cases h
    · split at h
      · exact ⟨by assumption, h⟩
      · cases h
theorem memSnoc {α : Type} {l : List α} {a x : α} (h : x ∈ l ++ [a]) : x ∈ l ∨ x = a := by
  rcases List.mem_append.mp h with h | h
  · exact Or.inl h
  · exact Or.inr (by simpa using h)
theorem cTail_on {W : Works} {ins : Bool} {l : List Tok} {c : Bool × Option Nat} (hc : cTail W ins l = .ok c) : ∀ k, c.2 = some k → k < W.arbors.length := fun k hk => by
  unfold cTail at hc
  split at hc
  · cases hc
    cases hk
  · split at hc
    · split at hc
      · rename_i hx
        cases hc
        cases hk
        exact index_lt hx
      · cases hc
    · cases hc
  · cases hc
theorem carried_on {W : Works} {l : List Tok} {c : Bool × Option Nat} (hc : Mu07.carried W l = .ok c) : ∀ k, c.2 = some k → k < W.arbors.length := by
  rw [carried_is] at hc
  exact cTail_on hc
theorem Wf.put {W X : Works} (F : Wf W) {w : Bytes} {r : List Tok} (h : pLine_ W w r = .ok X) : Wf X := by
  have le1 : ∀ {n : Nat}, n ≤ n + 1 := fun {n} => Nat.le_succ n
  unfold pLine_ at h
  split at h
  · unfold pArbor at h
    split at h
    · rename_i a
      obtain ⟨hn, h⟩ := named_ok h
      cases h
      have la : (W.arbors ++ [a]).length = W.arbors.length + 1 := by simp
      have ml : W.arbors.length ≤ (W.arbors ++ [a]).length := by omega
      have gm : ∀ g, GoesOk W g → GoesOk { W with arbors := W.arbors ++ [a] } g := fun g h => goes_mono (W := W) (X := { W with arbors := W.arbors ++ [a] }) ml (Nat.le_refl _) h
      refine ⟨by show (W.arbors ++ [a]).length ≤ 12; omega, F.nw, F.nm, F.ns, F.nh, F.nk, F.nc, fun i s hd => ?_, fun x hx => ?_, fun m hm => ?_, fun k x hx => ?_, fun x hx => ?_, fun x hx => ?_, fun x hx => ?_⟩
      · obtain ⟨h1, h2⟩ := F.drive i s hd
        exact ⟨Nat.lt_of_lt_of_le h1 ml, h2⟩
      · obtain ⟨h1, h2⟩ := F.wheel x hx
        exact ⟨Nat.lt_of_lt_of_le h1 ml, h2⟩
      · obtain ⟨h1, h2, h3⟩ := F.mesh m hm
        exact ⟨h1, h2, fun c hc => Nat.lt_of_lt_of_le (h3 c hc) ml⟩
      · obtain ⟨h1, h2⟩ := F.star k x hx
        refine ⟨?_, h2⟩
        cases hb : x.by_ with
        | arbor i =>
          rw [hb] at h1
          exact Nat.lt_of_lt_of_le h1 ml
        | star i =>
          rw [hb] at h1
          exact h1
      · obtain ⟨h1, h2⟩ := F.hand x hx
        exact ⟨gm _ h1, h2⟩
      · obtain ⟨h1, h2⟩ := F.striker x hx
        exact ⟨gm _ h1, h2⟩
      · obtain ⟨h1, h2⟩ := F.calendar x hx
        exact ⟨gm _ h1, h2⟩
    · cases h
  split at h
  · unfold pDrive at h
    split at h
    · split at h
      · rename_i hi
        split at h
        · cases h
        · split at h
          · rename_i hb
            cases h
            exact ⟨F.na, F.nw, F.nm, F.ns, F.nh, F.nk, F.nc, fun i s hd => by
              cases hd
              exact ⟨index_lt hi, hb⟩, F.wheel, F.mesh, F.star, F.hand, F.striker, F.calendar⟩
          · cases h
      · cases h
    · cases h
  split at h
  · unfold pWheel_ at h
    split at h
    · obtain ⟨hn, h⟩ := named_ok h
      split at h
      · rename_i hi
        split at h
        · rename_i hb
          cases h
          refine ⟨F.na, by show (W.wheels ++ _).length ≤ 24; rw [List.length_append, List.length_singleton]; omega, F.nm, F.ns, F.nh, F.nk, F.nc, F.drive, fun x hx => ?_, fun m hm => ?_, F.star, F.hand, F.striker, F.calendar⟩
          · rcases memSnoc hx with hx | rfl
            · exact F.wheel x hx
            · exact ⟨index_lt hi, hb⟩
          · obtain ⟨h1, h2, h3⟩ := F.mesh m hm
            have e : ∀ y : Mu07.Wheel, W.wheels.length ≤ (W.wheels ++ [y]).length := fun y => by rw [List.length_append]; exact Nat.le_add_right _ _
            exact ⟨Nat.lt_of_lt_of_le h1 (e _), Nat.lt_of_lt_of_le h2 (e _), h3⟩
        · cases h
      · cases h
    · cases h
  split at h
  · unfold pMesh_ at h
    split at h
    · split at h
      · rename_i hn
        split at h
        · cases h
        · split at h
          · rename_i hi
            split at h
            · rename_i hj
              rename_i r _ _ _ _ _
              cases hc : Mu07.carried W ‹List Tok› with
              | error k =>
                rw [hc] at h
                cases h
              | ok c =>
                rw [hc] at h
                cases h
                refine ⟨F.na, F.nw, by show (W.meshes ++ _).length ≤ 24; rw [List.length_append, List.length_singleton]; omega, F.ns, F.nh, F.nk, F.nc, F.drive, F.wheel, fun m hm => ?_, F.star, F.hand, F.striker, F.calendar⟩
                rcases memSnoc hm with hm | rfl
                · exact F.mesh m hm
                · refine ⟨wheel_lt hi, wheel_lt hj, fun k hk => ?_⟩
                  exact carried_on hc k hk
            · cases h
          · cases h
      · cases h
    · cases h
  split at h
  · unfold pHand_ at h
    split at h
    · obtain ⟨hn, h⟩ := named_ok h
      split at h
      · rename_i hg
        split at h
        · rename_i hb
          split at h
          · rename_i hf
            cases h
            refine ⟨F.na, F.nw, F.nm, F.ns, by show (W.hands ++ _).length ≤ 12; rw [List.length_append, List.length_singleton]; omega, F.nk, F.nc, F.drive, F.wheel, F.mesh, F.star, fun x hx => ?_, fun x hx => ?_, F.calendar⟩
            · rcases memSnoc hx with hx | rfl
              · exact F.hand x hx
              · exact ⟨goes_ok hg, hb.1, hb.2, by dsimp only; omega⟩
            · obtain ⟨h1, h2, h3⟩ := F.striker x hx
              exact ⟨h1, fun k hk => Nat.lt_of_lt_of_le (h2 k hk) (by rw [List.length_append]; exact Nat.le_add_right _ _), h3⟩
          · cases h
        · cases h
      · cases h
    · cases h
  split at h
  · unfold pJump at h
    split at h
    · obtain ⟨hn, h⟩ := named_ok h
      split at h
      · rename_i hg
        split at h
        · rename_i hb
          cases h
          have ml : ∀ y : Mu07.Star, W.stars.length ≤ (W.stars ++ [y]).length := fun y => by rw [List.length_append]; exact Nat.le_add_right _ _
          have gm : ∀ y g, GoesOk W g → GoesOk { W with stars := W.stars ++ [y] } g := fun y g h => goes_mono (W := W) (X := { W with stars := W.stars ++ [y] }) (Nat.le_refl _) (ml y) h
          refine ⟨F.na, F.nw, F.nm, by show (W.stars ++ _).length ≤ 6; rw [List.length_append, List.length_singleton]; omega, F.nh, F.nk, F.nc, F.drive, F.wheel, F.mesh, fun k x hx => ?_, fun x hx => ?_, fun x hx => ?_, fun x hx => ?_⟩
          · by_cases hk : k < W.stars.length
            · have : W.stars[k]? = some x := by
                have := hx
                rwa [show (W.stars ++ [_])[k]? = W.stars[k]? from List.getElem?_append_left hk] at this
              exact F.star k x this
            · have hl := (List.getElem?_eq_some_iff.mp hx).1
              have hl : k < (W.stars ++ [_]).length := hl
              rw [List.length_append, List.length_singleton] at hl
              have e : k = W.stars.length := by omega
              subst e
              have hx : (W.stars ++ [_])[W.stars.length]? = some x := hx
              rw [List.getElem?_concat_length] at hx
              cases hx
              have gk := goes_ok hg
              refine ⟨?_, hb⟩
              dsimp only
              split
              · exact gk
              · exact gk
          · obtain ⟨h1, h2⟩ := F.hand x hx
            exact ⟨gm _ _ h1, h2⟩
          · obtain ⟨h1, h2⟩ := F.striker x hx
            exact ⟨gm _ _ h1, h2⟩
          · obtain ⟨h1, h2⟩ := F.calendar x hx
            exact ⟨gm _ _ h1, h2⟩
        · cases h
      · cases h
    · cases h
  split at h
  · unfold pCount at h
    split at h
    · split at h
      · split at h
        · cases h
        · rename_i he
          obtain ⟨hn, h⟩ := named_ok h
          split at h
          · rename_i hg
            split at h
            · rename_i hb
              split at h
              · cases h
              · rename_i ha
                cases h
                refine ⟨F.na, F.nw, F.nm, F.ns, F.nh, by show (W.strikers ++ _).length ≤ 6; rw [List.length_append, List.length_singleton]; omega, F.nc, F.drive, F.wheel, F.mesh, F.star, F.hand, fun x hx => ?_, F.calendar⟩
                rcases memSnoc hx with hx | rfl
                · exact F.striker x hx
                · refine ⟨goes_ok hg, (fun k hk => by cases hk), fun _ => hb.1, hb.2, fun z hz => ?_⟩
                  by_cases h9 : 99 < z
                  · exact (ha (List.any_eq_true.mpr ⟨z, hz, decide_eq_true h9⟩)).elim
                  · omega
            · cases h
          · cases h
      · cases h
    · cases h
  split at h
  · unfold pRack at h
    split at h
    · obtain ⟨hn, h⟩ := named_ok h
      split at h
      · rename_i hg
        split at h
        · rename_i hi
          cases h
          refine ⟨F.na, F.nw, F.nm, F.ns, F.nh, by show (W.strikers ++ _).length ≤ 6; rw [List.length_append, List.length_singleton]; omega, F.nc, F.drive, F.wheel, F.mesh, F.star, F.hand, fun x hx => ?_, F.calendar⟩
          rcases memSnoc hx with hx | rfl
          · exact F.striker x hx
          · exact ⟨goes_ok hg, (fun k hk => by cases hk; exact hand_lt hi), (fun z => by cases z), by simp, fun z hz => by simp at hz⟩
        · cases h
      · cases h
    · cases h
  split at h
  · unfold pCalendar at h
    split at h
    · obtain ⟨hn, h⟩ := named_ok h
      split at h
      · rename_i hg
        split at h
        · rename_i h1
          split at h
          · rename_i h2
            split at h
            · rename_i h3
              cases h
              refine ⟨F.na, F.nw, F.nm, F.ns, F.nh, F.nk, by show (W.calendars ++ _).length ≤ 2; rw [List.length_append, List.length_singleton]; omega, F.drive, F.wheel, F.mesh, F.star, F.hand, F.striker, fun x hx => ?_⟩
              rcases memSnoc hx with hx | rfl
              · exact F.calendar x hx
              · refine ⟨goes_ok hg, ?_, ?_, h2.1, h2.2, h3.1, h3.2⟩
                · dsimp only
                  omega
                · dsimp only
                  omega
            · cases h
          · cases h
        · cases h
      · cases h
    · cases h
  cases h
theorem Wf.words {W X : Works} (F : Wf W) {ws : List Bytes} (ne : ws ≠ []) (h : rLine W ws = .ok X) : Wf X := by
  unfold rLine at h
  split at h
  · rename_i hc
    cases ws with
    | nil => exact absurd rfl ne
    | cons w l =>
      rw [rWords_is W w l hc] at h
      have h : Mu07.put W (tokOf w :: l.map tokOf) = .ok X := h
      cases ht : tokOf w with
      | name b =>
        rw [ht, put_line] at h
        exact F.put h
      | num n =>
        rw [ht] at h
        cases h
  · cases h
theorem Wf.empty : Wf {} := by
  refine ⟨by decide, by decide, by decide, by decide, by decide, by decide, by decide, fun i s hd => (by cases hd), fun x hx => ?_, fun x hx => ?_, fun k x hx => ?_, fun x hx => ?_, fun x hx => ?_, fun x hx => ?_⟩
  · exact absurd hx (by simp)
  · exact absurd hx (by simp)
  · exact absurd hx (by simp)
  · exact absurd hx (by simp)
  · exact absurd hx (by simp)
  · exact absurd hx (by simp)
end Cw

/-! The walk through reading: a part more. -/
namespace Cw
open PySem PySem.Spec PyProof.Rows L2 Evl
open Mu07 (State Goes Works Star Q frac whole Bytes numberOf indexOf kept there goes)
/-- text times a number -/
def rMulS : R2 := fun x y H Q => ∃ z k, x = .str z ∧ y = .int k ∧ MulOk z k ∧ Q (.str (Txt.mul z k)) H
theorem op_mulS {X : Cx} : OpR X (binaryOp .Mult) rMulS := by
  intro pins s σ H x y v u Q I rx ry h
  obtain ⟨z, k, rfl, rfl, ok, q⟩ := h
  obtain ⟨t, rfl⟩ := rx
  obtain ⟨t', rfl⟩ := ry
  exact SB.mul ok fun t' tk => ⟨.str (Txt.mul z k), H, I.tok _, ⟨_, rfl⟩, q⟩
theorem rv_mulS {z : Str} {k : Int} {H : Hp} (ok : MulOk z k) : RV rMulS (.str z) (.int k) H (.str (Txt.mul z k)) := fun H1 e Q q => ⟨z, k, rfl, rfl, ok, q H1 (Ex.refl H1)⟩
theorem foldl_repA {α : Type} (its : List α) : ∀ (k : Nat) (acc : List α), (List.foldl (fun x1 x2 => x1 ++ x2) acc.toArray (List.replicate k its.toArray)).toList = acc ++ (List.replicate k its).flatten
  | 0, acc => by simp
  | k + 1, acc => by
    have e : acc.toArray ++ its.toArray = (acc ++ its).toArray := by simp
    rw [List.replicate_succ, List.foldl_cons, e, foldl_repA its k (acc ++ its), List.replicate_succ, List.flatten_cons, List.append_assoc]
theorem nines_ok {n : Nat} (h1 : 1 ≤ n) (h2 : n ≤ 100000) : MulOk "9" (n : Int) := by
  refine ⟨?_, fun _ _ => ?_, fun _ _ => ?_⟩
  · have a : ¬ ((n : Int) < -(2 ^ 63 : Int)) := by omega
    have b : ¬ ((n : Int) ≥ 2 ^ 63) := by omega
    rw [decide_eq_false a, decide_eq_false b]
    rfl
  · have e : ((("9" : Str).length : Nat) : Int) = 1 := rfl
    rw [e]
    have : (1 : Int) ≤ (2 ^ 63 - 1) / (n : Int) := by
      rw [Int.le_ediv_iff_mul_le (by omega)]
      omega
    omega
  · have e : ("9" : Str).length = 1 := rfl
    rw [e, Int.toNat_natCast, Nat.one_mul]
    exact decide_eq_false (by have : sizeLine = 16777216 := rfl; omega)
theorem nines_are {n : Nat} (h1 : 1 ≤ n) : (Txt.mul "9" (n : Int)).cps.toList = List.replicate n 57 := by
  unfold Txt.mul
  rw [if_neg (by omega)]
  by_cases h : n = 1
  · subst h
    rfl
  · have e : ((((n : Int) == 1) || (("9" : Str).length == 0))) = false := by
      have : ((n : Int) == 1) = false := by
        have : ¬ (n : Int) = 1 := by omega
        simpa using this
      rw [this]
      rfl
    rw [e, if_neg (by decide), Int.toNat_natCast]
    have := foldl_repA [57] n []
    have e2 : ("9" : Str).cps = [57].toArray := by decide +kernel
    show (List.foldl (fun x1 x2 => x1 ++ x2) #[] (List.replicate n ("9" : Str).cps)).toList = _
    rw [e2]
    have e3 : (#[] : Array Nat) = ([] : List Nat).toArray := rfl
    rw [e3, this, List.nil_append]
    induction n with
    | zero => rfl
    | succ k ih => simp [List.replicate_succ]
/-! ### a part more -/
theorem at_snoc {ps : List Addr} {q : Addr} {R : Nat → Addr → Prop} (h : ∀ i p, ps[i]? = some p → R i p) (hq : R ps.length q) : ∀ i p, (ps ++ [q])[i]? = some p → R i p := fun i p hp => by
  by_cases hi : i < ps.length
  · rw [List.getElem?_append_left hi] at hp
    exact h i p hp
  · have hl := (List.getElem?_eq_some_iff.mp hp).1
    rw [List.length_append, List.length_singleton] at hl
    have e : i = ps.length := by omega
    subst e
    rw [List.getElem?_concat_length] at hp
    cases hp
    exact hq
theorem get_app {α : Type} {l m : List α} {i : Nat} {x : α} (h : l[i]? = some x) : (l ++ m)[i]? = some x := by
  rw [List.getElem?_append_left (List.getElem?_eq_some_iff.mp h).1]
  exact h
theorem get_end {α : Type} {l : List α} {x : α} {n : Nat} (h : n = l.length) : (l ++ [x])[n]? = some x := by
  subst h
  exact List.getElem?_concat_length
theorem getD_app {l m : List Addr} {i : Nat} (h : i < l.length) : (l ++ m).getD i 0 = l.getD i 0 := by
  rw [List.getD_eq_getElem?_getD, List.getD_eq_getElem?_getD, List.getElem?_append_left h]
theorem mov_app {ar st a b : List Addr} {g : Goes} {q : Addr} (h : movOf ar st g = some q) : movOf (ar ++ a) (st ++ b) g = some q := by
  cases g with
  | arbor i => exact get_app h
  | star i => exact get_app h
section
variable {K : PySem.W.Frag} {mg : Str → Option Value} {T : Txt K mg}
theorem Whls.more {H : Hp} {a b c : List Addr} {l : List Mu07.Wheel} (h : Whls T H a b l) : Whls T H a (b ++ c) l := fun i p hp => by
  obtain ⟨x, dx, na, q, h1, h2, h3, h4⟩ := h i p hp
  exact ⟨x, dx, na, q, h1, h2, get_app h3, h4⟩
theorem Mshs.more {H : Hp} {a b c d : List Addr} {l : List Mu07.Mesh} (h : Mshs T H a b c l) (hc : ∀ m ∈ l, ∀ k, m.on = some k → k < c.length) (e : List Addr) : Mshs T H a (b ++ d) (c ++ e) l := fun i p hp => by
  obtain ⟨x, dx, na, q, h1, h2, h3, h4⟩ := h i p hp
  refine ⟨x, dx, na, q, h1, ?_, get_app h3, get_app h4⟩
  have : carV (c ++ e) x.on = carV c x.on := by
    cases ho : x.on with
    | none => rfl
    | some k => exact congrArg V.ref (getD_app (hc x (List.mem_of_getElem? h1) k ho))
  rw [this]
  exact h2
theorem Stars.more {H : Hp} {a b c d : List Addr} {l : List Star} (h : Stars T H a b l) : ∀ (i : Nat) (p : Addr), a[i]? = some p → ∃ (x : Star) (dx na q : Addr), l[i]? = some x ∧ H p = some (.ins T.Mover.C dx (moverF na (i : Int) (.ref q) (x.steps : Int) 0 1)) ∧ movOf (b ++ c) (a ++ d) x.by_ = some q ∧ NameAt T.td H na x.name := fun i p hp => by
  obtain ⟨x, dx, na, q, h1, h2, h3, h4⟩ := h i p hp
  exact ⟨x, dx, na, q, h1, h2, mov_app h3, h4⟩
theorem Hands.more {H : Hp} {a b c d e : List Addr} {l : List Mu07.Hand} {ds : List Int} (h : Hands T H a b c l ds) : Hands T H a (b ++ d) (c ++ e) l ds := fun i p hp => by
  obtain ⟨x, dx, na, q, h1, h2, h3, h4⟩ := h i p hp
  exact ⟨x, dx, na, q, h1, h2, mov_app h3, h4⟩
theorem Strks.more {H : Hp} {a b c d e f g : List Addr} {l : List Mu07.Striker} {n : List Nat} (h : Strks T H a b c d l n) : Strks T H a (b ++ e) (c ++ f) (d ++ g) l n := fun i p hp => by
  obtain ⟨x, dx, na, q, ns, hd, h1, h2, h3, h4, h5, h6⟩ := h i p hp
  exact ⟨x, dx, na, q, ns, hd, h1, h2, mov_app h3, h4, h5, fun k hk => by
    obtain ⟨hp, a1, a2⟩ := h6 k hk
    exact ⟨hp, a1, get_app a2⟩⟩
theorem Cals.more {H : Hp} {a b c d e : List Addr} {l : List Mu07.Calendar} {ds : List Int} (h : Cals T H a b c l ds) : Cals T H a (b ++ d) (c ++ e) l ds := fun i p hp => by
  obtain ⟨x, dx, na, q, h1, h2, h3, h4⟩ := h i p hp
  exact ⟨x, dx, na, q, h1, h2, mov_app h3, h4⟩
/-- works as they're read -/
def raw (W : Works) : Mu07.State := ⟨W, [], 0, [], [], []⟩
theorem tagL_I : tagL ≠ tagI := by decide
/-- a list that grew -/
theorem grew {H : Hp} {l : Addr} {ps : List Addr} {p : Addr} : upd H l (.lst (refV ps ++ [.ref p])) l = some (.lst (refV (ps ++ [p]))) := by
  rw [upd_same, refV_app]
  rfl
variable {H : Hp} {L : Lay} {W : Works} {p dx na : Addr}
theorem tag_tl {l : List Addr} (k : List Str) (h : tagL ≠ k) : tagOf (.lst (refV l)) ≠ k := by
  rw [tag_ref]
  exact h
theorem nd_snoc {l : List Addr} {a : Addr} (h : l.Nodup) (ha : a ∉ l) : (l ++ [a]).Nodup := by
  rw [List.nodup_append]
  refine ⟨h, by simp, fun x hx y hy => ?_⟩
  have : y = a := by simpa using hy
  rw [this]
  exact fun e => ha (e ▸ hx)
theorem WAt.noHa {s : Mu07.State} (h : WAt T H L s) (hp : H p = none) : p ∉ L.ha := fun m => by
  obtain ⟨i, hi, e⟩ := List.mem_iff_getElem.mp m
  obtain ⟨_, _, _, _, _, h2, _⟩ := h.hands i p (by rw [← e]; exact List.getElem?_eq_getElem hi)
  rw [hp] at h2
  cases h2
theorem WAt.noSk {s : Mu07.State} (h : WAt T H L s) (hp : H p = none) : p ∉ L.sk := fun m => by
  obtain ⟨i, hi, e⟩ := List.mem_iff_getElem.mp m
  obtain ⟨_, _, _, _, _, _, _, h2, _⟩ := h.strks i p (by rw [← e]; exact List.getElem?_eq_getElem hi)
  rw [hp] at h2
  cases h2
theorem WAt.noCa {s : Mu07.State} (h : WAt T H L s) (hp : H p = none) : p ∉ L.ca := fun m => by
  obtain ⟨i, hi, e⟩ := List.mem_iff_getElem.mp m
  obtain ⟨_, _, _, _, _, h2, _⟩ := h.cals i p (by rw [← e]; exact List.getElem?_eq_getElem hi)
  rw [hp] at h2
  cases h2
theorem WAt.addArbor (h : WAt T H L (raw W)) (F : Wf W) {nm : Bytes} (hp : H p = some (.ins T.Mover.C dx (moverF na (W.arbors.length : Int) .non 1 0 1))) (hn : NameAt T.td H na nm) :
    WAt T (upd H L.la (.lst (refV L.ar ++ [.ref p]))) { L with ar := L.ar ++ [p] } (raw { W with arbors := W.arbors ++ [nm] }) := by
  have eb := ExB.upd L.la H (.lst (refV L.ar ++ [.ref p]))
  have h0 := h.lists.la
  have t : ∀ k, tagL ≠ k → tagOf (.lst (refV L.ar)) ≠ k := fun k hk => tag_tl k hk
  have nd := h.lists.nd
  simp only [List.nodup_cons, List.mem_cons, List.not_mem_nil, not_or, or_false] at nd
  obtain ⟨⟨n1, n2, n3, n4, n5, n6⟩, _⟩ := nd
  have arl := h.lens.ar
  have arl : L.ar.length = W.arbors.length := arl
  refine ⟨?_, ⟨grew, eb _ _ (Ne.symm n1) h.lists.lw, eb _ _ (Ne.symm n2) h.lists.lm, eb _ _ (Ne.symm n3) h.lists.ls, eb _ _ (Ne.symm n4) h.lists.lh, eb _ _ (Ne.symm n5) h.lists.lk, eb _ _ (Ne.symm n6) h.lists.lc, h.lists.nd⟩, ⟨by show (L.ar ++ [p]).length = (W.arbors ++ [nm]).length; rw [List.length_append, List.length_append, arl]; rfl, h.lens.wh, h.lens.me, h.lens.st, h.lens.ha, h.lens.sk, h.lens.ca, h.lens.nha, h.lens.nsk, h.lens.nca⟩,
    at_snoc (fun i a ha => ?_) ⟨nm, dx, na, get_end arl, ?_, hn.kp eb h0 (t _ (by decide))⟩,
    (h.whls.kp eb h0 (t _ (by decide)) (t _ (by decide))).more, ?_, ?_, ?_, ?_, ?_⟩
  · have e := eb _ _ (tag_ne h.w h0 (by rw [tag_ref]; show worksK ≠ _; decide)) h.w
    have e2 : worksL { L with ar := L.ar ++ [p] } (raw { W with arbors := W.arbors ++ [nm] }) = worksL L (raw W) := by
      unfold worksL
      have : drvV (L.ar ++ [p]) W.drive = drvV L.ar W.drive := by
        cases hd : W.drive with
        | none => rfl
        | some x => exact congrArg V.ref (getD_app (by rw [arl]; exact (F.drive x.1 x.2 hd).1))
      show worksF _ _ _ _ _ _ _ (drvV (L.ar ++ [p]) W.drive) _ _ = worksF _ _ _ _ _ _ _ (drvV L.ar W.drive) _ _
      rw [this]
      rfl
    rw [e2]
    exact e
  · obtain ⟨nm', dx', na', k1, k2, k3⟩ := h.arbs.kp eb h0 (t _ (by decide)) (t _ (by decide)) i a ha
    exact ⟨nm', dx', na', get_app k1, k2, k3⟩
  · rw [arl]
    exact eb _ _ (tag_ne hp h0 (by rw [tag_ref]; show moverK ≠ _; decide)) hp
  · have := (h.mshs.kp eb h0 (t _ (by decide))).more (d := []) (fun m hm k hk => by rw [arl]; exact (F.mesh m hm).2.2 k hk) [p]
    rw [List.append_nil] at this
    exact this
  · have := (h.stars.kp eb h0 (t _ (by decide)) (t _ (by decide))).more (c := [p]) (d := [])
    rw [List.append_nil] at this
    exact this
  · have := (h.hands.kp eb h0 (t _ (by decide)) (t _ (by decide))).more (d := [p]) (e := [])
    rw [List.append_nil] at this
    exact this
  · have := (h.strks.kp eb h0 (t _ (by decide)) (t _ (by decide))).more (e := []) (f := [p]) (g := [])
    rw [List.append_nil, List.append_nil] at this
    exact this
  · have := (h.cals.kp eb h0 (t _ (by decide)) (t _ (by decide))).more (d := [p]) (e := [])
    rw [List.append_nil] at this
    exact this
theorem WAt.addWheel (h : WAt T H L (raw W)) {x : Mu07.Wheel} {q : Addr} (hp : H p = some (.ins T.Wheel.C dx (wheelF na q (x.teeth : Int)))) (hq : L.ar[x.arbor]? = some q) (hn : NameAt T.td H na x.name) :
    WAt T (upd H L.lw (.lst (refV L.wh ++ [.ref p]))) { L with wh := L.wh ++ [p] } (raw { W with wheels := W.wheels ++ [x] }) := by
  have eb := ExB.upd L.lw H (.lst (refV L.wh ++ [.ref p]))
  have h0 := h.lists.lw
  have t : ∀ k, tagL ≠ k → tagOf (.lst (refV L.wh)) ≠ k := fun k hk => tag_tl k hk
  have nd := h.lists.nd
  simp only [List.nodup_cons, List.mem_cons, List.not_mem_nil, not_or, or_false] at nd
  obtain ⟨⟨n1, _⟩, ⟨n2, n3, n4, n5, n6⟩, _⟩ := nd
  have wl : L.wh.length = W.wheels.length := h.lens.wh
  refine ⟨eb _ _ (tag_ne h.w h0 (by rw [tag_ref]; show worksK ≠ _; decide)) h.w, ⟨eb _ _ n1 h.lists.la, grew, eb _ _ (Ne.symm n2) h.lists.lm, eb _ _ (Ne.symm n3) h.lists.ls, eb _ _ (Ne.symm n4) h.lists.lh, eb _ _ (Ne.symm n5) h.lists.lk, eb _ _ (Ne.symm n6) h.lists.lc, h.lists.nd⟩, ⟨h.lens.ar, by show (L.wh ++ [p]).length = (W.wheels ++ [x]).length; rw [List.length_append, List.length_append, wl]; rfl, h.lens.me, h.lens.st, h.lens.ha, h.lens.sk, h.lens.ca, h.lens.nha, h.lens.nsk, h.lens.nca⟩,
    h.arbs.kp eb h0 (t _ (by decide)) (t _ (by decide)), at_snoc (fun i a ha => ?_) ⟨x, dx, na, q, get_end wl, eb _ _ (tag_ne hp h0 (by rw [tag_ref]; show wheelK ≠ _; decide)) hp, hq, hn.kp eb h0 (t _ (by decide))⟩, ?_,
    h.stars.kp eb h0 (t _ (by decide)) (t _ (by decide)), h.hands.kp eb h0 (t _ (by decide)) (t _ (by decide)), h.strks.kp eb h0 (t _ (by decide)) (t _ (by decide)), h.cals.kp eb h0 (t _ (by decide)) (t _ (by decide))⟩
  · obtain ⟨y, dx', na', q', k1, k2⟩ := h.whls.kp eb h0 (t _ (by decide)) (t _ (by decide)) i a ha
    exact ⟨y, dx', na', q', get_app k1, k2⟩
  · intro i a ha
    obtain ⟨y, dx', f, g, k1, k2, k3, k4⟩ := h.mshs.kp eb h0 (t _ (by decide)) i a ha
    exact ⟨y, dx', f, g, k1, k2, get_app k3, get_app k4⟩
theorem WAt.addMesh (h : WAt T H L (raw W)) {x : Mu07.Mesh} {f g : Addr} (hp : H p = some (.ins T.Mesh.C dx (meshF f g x.inside (carV L.ar x.on)))) (hf : L.wh[x.v]? = some f) (hg : L.wh[x.w]? = some g) :
    WAt T (upd H L.lm (.lst (refV L.me ++ [.ref p]))) { L with me := L.me ++ [p] } (raw { W with meshes := W.meshes ++ [x] }) := by
  have eb := ExB.upd L.lm H (.lst (refV L.me ++ [.ref p]))
  have h0 := h.lists.lm
  have t : ∀ k, tagL ≠ k → tagOf (.lst (refV L.me)) ≠ k := fun k hk => tag_tl k hk
  have nd := h.lists.nd
  simp only [List.nodup_cons, List.mem_cons, List.not_mem_nil, not_or, or_false] at nd
  obtain ⟨⟨_, n1, _⟩, ⟨n2, _⟩, ⟨n3, n4, n5, n6⟩, _⟩ := nd
  have wl : L.me.length = W.meshes.length := h.lens.me
  refine ⟨eb _ _ (tag_ne h.w h0 (by rw [tag_ref]; show worksK ≠ _; decide)) h.w, ⟨eb _ _ n1 h.lists.la, eb _ _ n2 h.lists.lw, grew, eb _ _ (Ne.symm n3) h.lists.ls, eb _ _ (Ne.symm n4) h.lists.lh, eb _ _ (Ne.symm n5) h.lists.lk, eb _ _ (Ne.symm n6) h.lists.lc, h.lists.nd⟩, ⟨h.lens.ar, h.lens.wh, by show (L.me ++ [p]).length = (W.meshes ++ [x]).length; rw [List.length_append, List.length_append, wl]; rfl, h.lens.st, h.lens.ha, h.lens.sk, h.lens.ca, h.lens.nha, h.lens.nsk, h.lens.nca⟩,
    h.arbs.kp eb h0 (t _ (by decide)) (t _ (by decide)), h.whls.kp eb h0 (t _ (by decide)) (t _ (by decide)), at_snoc (fun i a ha => ?_) ⟨x, dx, f, g, get_end wl, eb _ _ (tag_ne hp h0 (by rw [tag_ref]; show meshK ≠ _; decide)) hp, hf, hg⟩,
    h.stars.kp eb h0 (t _ (by decide)) (t _ (by decide)), h.hands.kp eb h0 (t _ (by decide)) (t _ (by decide)), h.strks.kp eb h0 (t _ (by decide)) (t _ (by decide)), h.cals.kp eb h0 (t _ (by decide)) (t _ (by decide))⟩
  obtain ⟨y, dx', f', g', k1, k2⟩ := h.mshs.kp eb h0 (t _ (by decide)) i a ha
  exact ⟨y, dx', f', g', get_app k1, k2⟩
theorem WAt.addStar (h : WAt T H L (raw W)) {x : Star} {q : Addr} (hp : H p = some (.ins T.Mover.C dx (moverF na (W.stars.length : Int) (.ref q) (x.steps : Int) 0 1))) (hq : movOf L.ar L.st x.by_ = some q) (hn : NameAt T.td H na x.name) :
    WAt T (upd H L.ls (.lst (refV L.st ++ [.ref p]))) { L with st := L.st ++ [p] } (raw { W with stars := W.stars ++ [x] }) := by
  have eb := ExB.upd L.ls H (.lst (refV L.st ++ [.ref p]))
  have h0 := h.lists.ls
  have t : ∀ k, tagL ≠ k → tagOf (.lst (refV L.st)) ≠ k := fun k hk => tag_tl k hk
  have nd := h.lists.nd
  simp only [List.nodup_cons, List.mem_cons, List.not_mem_nil, not_or, or_false] at nd
  obtain ⟨⟨_, _, n1, _⟩, ⟨_, n2, _⟩, ⟨n3, _⟩, ⟨n4, n5, n6⟩, _⟩ := nd
  have wl : L.st.length = W.stars.length := h.lens.st
  have mo : ∀ {g : Goes} {q : Addr}, movOf L.ar L.st g = some q → movOf L.ar (L.st ++ [p]) g = some q := fun {g q} z => by
    have := mov_app (a := []) (b := [p]) z
    rw [List.append_nil] at this
    exact this
  refine ⟨eb _ _ (tag_ne h.w h0 (by rw [tag_ref]; show worksK ≠ _; decide)) h.w, ⟨eb _ _ n1 h.lists.la, eb _ _ n2 h.lists.lw, eb _ _ n3 h.lists.lm, grew, eb _ _ (Ne.symm n4) h.lists.lh, eb _ _ (Ne.symm n5) h.lists.lk, eb _ _ (Ne.symm n6) h.lists.lc, h.lists.nd⟩, ⟨h.lens.ar, h.lens.wh, h.lens.me, by show (L.st ++ [p]).length = (W.stars ++ [x]).length; rw [List.length_append, List.length_append, wl]; rfl, h.lens.ha, h.lens.sk, h.lens.ca, h.lens.nha, h.lens.nsk, h.lens.nca⟩,
    h.arbs.kp eb h0 (t _ (by decide)) (t _ (by decide)), h.whls.kp eb h0 (t _ (by decide)) (t _ (by decide)), h.mshs.kp eb h0 (t _ (by decide)), at_snoc (fun i a ha => ?_) ⟨x, dx, na, q, get_end wl, ?_, mo hq, hn.kp eb h0 (t _ (by decide))⟩, ?_, ?_, ?_⟩
  · obtain ⟨y, dx', na', q', k1, k2, k3, k4⟩ := h.stars.kp eb h0 (t _ (by decide)) (t _ (by decide)) i a ha
    exact ⟨y, dx', na', q', get_app k1, k2, mo k3, k4⟩
  · rw [wl]
    exact eb _ _ (tag_ne hp h0 (by rw [tag_ref]; show moverK ≠ _; decide)) hp
  · have := (h.hands.kp eb h0 (t _ (by decide)) (t _ (by decide))).more (d := []) (e := [p])
    rw [List.append_nil] at this
    exact this
  · have := (h.strks.kp eb h0 (t _ (by decide)) (t _ (by decide))).more (e := []) (f := []) (g := [p])
    rw [List.append_nil, List.append_nil] at this
    exact this
  · have := (h.cals.kp eb h0 (t _ (by decide)) (t _ (by decide))).more (d := []) (e := [p])
    rw [List.append_nil] at this
    exact this
theorem WAt.addHand (h : WAt T H L (raw W)) (hnew : p ∉ L.ha) {x : Mu07.Hand} {q : Addr} (hp : H p = some (.ins T.Hand.C dx (handF na q (x.marks : Int) (x.first : Int)))) (hq : movOf L.ar L.st x.on = some q) (hn : NameAt T.td H na x.name) :
    WAt T (upd H L.lh (.lst (refV L.ha ++ [.ref p]))) { L with ha := L.ha ++ [p] } (raw { W with hands := W.hands ++ [x] }) := by
  have eb := ExB.upd L.lh H (.lst (refV L.ha ++ [.ref p]))
  have h0 := h.lists.lh
  have t : ∀ k, tagL ≠ k → tagOf (.lst (refV L.ha)) ≠ k := fun k hk => tag_tl k hk
  have nd := h.lists.nd
  simp only [List.nodup_cons, List.mem_cons, List.not_mem_nil, not_or, or_false] at nd
  obtain ⟨⟨_, _, _, n1, _⟩, ⟨_, _, n2, _⟩, ⟨_, n3, _⟩, ⟨n4, _⟩, ⟨n5, n6⟩, _⟩ := nd
  have wl : L.ha.length = W.hands.length := h.lens.ha
  refine ⟨eb _ _ (tag_ne h.w h0 (by rw [tag_ref]; show worksK ≠ _; decide)) h.w, ⟨eb _ _ n1 h.lists.la, eb _ _ n2 h.lists.lw, eb _ _ n3 h.lists.lm, eb _ _ n4 h.lists.ls, grew, eb _ _ (Ne.symm n5) h.lists.lk, eb _ _ (Ne.symm n6) h.lists.lc, h.lists.nd⟩, ⟨h.lens.ar, h.lens.wh, h.lens.me, h.lens.st, by show (L.ha ++ [p]).length = (W.hands ++ [x]).length; rw [List.length_append, List.length_append, wl]; rfl, h.lens.sk, h.lens.ca, nd_snoc h.lens.nha hnew, h.lens.nsk, h.lens.nca⟩,
    h.arbs.kp eb h0 (t _ (by decide)) (t _ (by decide)), h.whls.kp eb h0 (t _ (by decide)) (t _ (by decide)), h.mshs.kp eb h0 (t _ (by decide)), h.stars.kp eb h0 (t _ (by decide)) (t _ (by decide)), at_snoc (fun i a ha => ?_) ⟨x, dx, na, q, get_end wl, ?_, hq, hn.kp eb h0 (t _ (by decide))⟩, ?_, h.cals.kp eb h0 (t _ (by decide)) (t _ (by decide))⟩
  · obtain ⟨y, dx', na', q', k1, k2⟩ := h.hands.kp eb h0 (t _ (by decide)) (t _ (by decide)) i a ha
    exact ⟨y, dx', na', q', get_app k1, k2⟩
  · have e : (x.first : Int) + (raw { W with hands := W.hands ++ [x] }).set.getD L.ha.length 0 = (x.first : Int) := Int.add_zero _
    rw [e]
    exact eb _ _ (tag_ne hp h0 (by rw [tag_ref]; show handK ≠ _; decide)) hp
  · have := (h.strks.kp eb h0 (t _ (by decide)) (t _ (by decide))).more (e := [p]) (f := []) (g := [])
    rw [List.append_nil, List.append_nil] at this
    exact this
theorem WAt.addStriker (h : WAt T H L (raw W)) (hnew : p ∉ L.sk) {x : Mu07.Striker} {q ns : Addr} {hd : V} (hp : H p = some (.ins T.Striker.C dx (strikerF na q ns hd 0))) (hq : movOf L.ar L.st x.by_ = some q) (hn : NameAt T.td H na x.name)
    (h1 : x.hand = none → hd = .non ∧ NameAt T.td H ns x.numbers) (h2 : ∀ h, x.hand = some h → ∃ hp : Addr, hd = .ref hp ∧ L.ha[h]? = some hp) :
    WAt T (upd H L.lk (.lst (refV L.sk ++ [.ref p]))) { L with sk := L.sk ++ [p] } (raw { W with strikers := W.strikers ++ [x] }) := by
  have eb := ExB.upd L.lk H (.lst (refV L.sk ++ [.ref p]))
  have h0 := h.lists.lk
  have t : ∀ k, tagL ≠ k → tagOf (.lst (refV L.sk)) ≠ k := fun k hk => tag_tl k hk
  have nd := h.lists.nd
  simp only [List.nodup_cons, List.mem_cons, List.not_mem_nil, not_or, or_false] at nd
  obtain ⟨⟨_, _, _, _, n1, _⟩, ⟨_, _, _, n2, _⟩, ⟨_, _, n3, _⟩, ⟨_, n4, _⟩, ⟨n5, _⟩, n6, _⟩ := nd
  have wl : L.sk.length = W.strikers.length := h.lens.sk
  refine ⟨eb _ _ (tag_ne h.w h0 (by rw [tag_ref]; show worksK ≠ _; decide)) h.w, ⟨eb _ _ n1 h.lists.la, eb _ _ n2 h.lists.lw, eb _ _ n3 h.lists.lm, eb _ _ n4 h.lists.ls, eb _ _ n5 h.lists.lh, grew, eb _ _ (Ne.symm n6) h.lists.lc, h.lists.nd⟩, ⟨h.lens.ar, h.lens.wh, h.lens.me, h.lens.st, h.lens.ha, by show (L.sk ++ [p]).length = (W.strikers ++ [x]).length; rw [List.length_append, List.length_append, wl]; rfl, h.lens.ca, h.lens.nha, nd_snoc h.lens.nsk hnew, h.lens.nca⟩,
    h.arbs.kp eb h0 (t _ (by decide)) (t _ (by decide)), h.whls.kp eb h0 (t _ (by decide)) (t _ (by decide)), h.mshs.kp eb h0 (t _ (by decide)), h.stars.kp eb h0 (t _ (by decide)) (t _ (by decide)), h.hands.kp eb h0 (t _ (by decide)) (t _ (by decide)), at_snoc (fun i a ha => ?_) ⟨x, dx, na, q, ns, hd, get_end wl, eb _ _ (tag_ne hp h0 (by rw [tag_ref]; show strikerK ≠ _; decide)) hp, hq, hn.kp eb h0 (t _ (by decide)), fun z => ⟨(h1 z).1, (h1 z).2.kp eb h0 (t _ (by decide))⟩, h2⟩, h.cals.kp eb h0 (t _ (by decide)) (t _ (by decide))⟩
  obtain ⟨y, dx', na', q', ns', hd', k1, k2⟩ := h.strks.kp eb h0 (t _ (by decide)) (t _ (by decide)) i a ha
  exact ⟨y, dx', na', q', ns', hd', get_app k1, k2⟩
theorem WAt.addCal (h : WAt T H L (raw W)) (hnew : p ∉ L.ca) {x : Mu07.Calendar} {q : Addr} (hp : H p = some (.ins T.Calendar.C dx (calF na q x.first.y (x.first.m : Int) (x.first.d : Int) 0))) (hq : movOf L.ar L.st x.by_ = some q) (hn : NameAt T.td H na x.name) :
    WAt T (upd H L.lc (.lst (refV L.ca ++ [.ref p]))) { L with ca := L.ca ++ [p] } (raw { W with calendars := W.calendars ++ [x] }) := by
  have eb := ExB.upd L.lc H (.lst (refV L.ca ++ [.ref p]))
  have h0 := h.lists.lc
  have t : ∀ k, tagL ≠ k → tagOf (.lst (refV L.ca)) ≠ k := fun k hk => tag_tl k hk
  have nd := h.lists.nd
  simp only [List.nodup_cons, List.mem_cons, List.not_mem_nil, not_or, or_false] at nd
  obtain ⟨⟨_, _, _, _, _, n1⟩, ⟨_, _, _, _, n2⟩, ⟨_, _, _, n3⟩, ⟨_, _, n4⟩, ⟨_, n5⟩, n6, _⟩ := nd
  have wl : L.ca.length = W.calendars.length := h.lens.ca
  refine ⟨eb _ _ (tag_ne h.w h0 (by rw [tag_ref]; show worksK ≠ _; decide)) h.w, ⟨eb _ _ n1 h.lists.la, eb _ _ n2 h.lists.lw, eb _ _ n3 h.lists.lm, eb _ _ n4 h.lists.ls, eb _ _ n5 h.lists.lh, eb _ _ n6 h.lists.lk, grew, h.lists.nd⟩, ⟨h.lens.ar, h.lens.wh, h.lens.me, h.lens.st, h.lens.ha, h.lens.sk, by show (L.ca ++ [p]).length = (W.calendars ++ [x]).length; (rw [List.length_append, List.length_append, wl]; rfl), h.lens.nha, h.lens.nsk, nd_snoc h.lens.nca hnew⟩,
    h.arbs.kp eb h0 (t _ (by decide)) (t _ (by decide)), h.whls.kp eb h0 (t _ (by decide)) (t _ (by decide)), h.mshs.kp eb h0 (t _ (by decide)), h.stars.kp eb h0 (t _ (by decide)) (t _ (by decide)), h.hands.kp eb h0 (t _ (by decide)) (t _ (by decide)), h.strks.kp eb h0 (t _ (by decide)) (t _ (by decide)), at_snoc (fun i a ha => ?_) ⟨x, dx, na, q, get_end wl, eb _ _ (tag_ne hp h0 (by rw [tag_ref]; show calK ≠ _; decide)) hp, hq, hn.kp eb h0 (t _ (by decide))⟩⟩
  obtain ⟨y, dx', na', q', k1, k2⟩ := h.cals.kp eb h0 (t _ (by decide)) (t _ (by decide)) i a ha
  exact ⟨y, dx', na', q', get_app k1, k2⟩
end
end Cw

/-! The walk through reading: new names, arbors, the drive. -/
namespace Cw
open PySem PySem.Spec PyProof.Rows L2 Evl
open Mu07 (State Goes Works Star Q frac whole Bytes numberOf indexOf kept there goes)
section
variable {K : PySem.W.Frag} {mg : Str → Option Value} {T : Txt K mg} {H H' : Hp} {L : Lay}
/-- the works' own object is another behind -/
theorem WAt.atWorks {s : Mu07.State} (h : WAt T H L s) (e : ExB L.a H H') : Lists H' L ∧ Arbs T H' L.ar s.works.arbors s.rates ∧ Whls T H' L.wh L.ar s.works.wheels ∧ Mshs T H' L.me L.wh L.ar s.works.meshes ∧ Stars T H' L.st L.ar s.works.stars ∧
    Hands T H' L.ha L.ar L.st s.works.hands s.set ∧ Strks T H' L.sk L.ha L.ar L.st s.works.strikers s.next ∧ Cals T H' L.ca L.ar L.st s.works.calendars s.days := by
  have h0 := h.w
  have t : ∀ k, worksK ≠ k → tagOf (.ins T.Works.C L.dx (worksL L s)) ≠ k := fun k hk => hk
  exact ⟨h.lists.kp e h0 (t _ (by decide)), h.arbs.kp e h0 (t _ (by decide)) (t _ (by decide)), h.whls.kp e h0 (t _ (by decide)) (t _ (by decide)), h.mshs.kp e h0 (t _ (by decide)), h.stars.kp e h0 (t _ (by decide)) (t _ (by decide)), h.hands.kp e h0 (t _ (by decide)) (t _ (by decide)), h.strks.kp e h0 (t _ (by decide)) (t _ (by decide)), h.cals.kp e h0 (t _ (by decide)) (t _ (by decide))⟩
/-- the works' own addresses: what reading changes -/
def ownL (L : Lay) : List Addr := [L.a, L.la, L.lw, L.lm, L.ls, L.lh, L.lk, L.lc]
structure SameL (L L' : Lay) : Prop where
  a : L'.a = L.a
  la : L'.la = L.la
  lw : L'.lw = L.lw
  lm : L'.lm = L.lm
  ls : L'.ls = L.ls
  lh : L'.lh = L.lh
  lk : L'.lk = L.lk
  lc : L'.lc = L.lc
theorem SameL.refl (L : Lay) : SameL L L := ⟨rfl, rfl, rfl, rfl, rfl, rfl, rfl, rfl⟩
theorem SameL.trans {L L1 L2 : Lay} (x : SameL L L1) (y : SameL L1 L2) : SameL L L2 := ⟨y.a.trans x.a, y.la.trans x.la, y.lw.trans x.lw, y.lm.trans x.lm, y.ls.trans x.ls, y.lh.trans x.lh, y.lk.trans x.lk, y.lc.trans x.lc⟩
theorem SameL.own {L L' : Lay} (h : SameL L L') : ownL L' = ownL L := by
  unfold ownL
  rw [h.a, h.la, h.lw, h.lm, h.ls, h.lh, h.lk, h.lc]
def KeptL (l : List Addr) (H H' : Hp) : Prop := ∀ b o, H b = some o → b ∉ l → H' b = some o
theorem KeptL.of {l : List Addr} (e : Ex H H') : KeptL l H H' := fun b o h _ => e b o h
theorem KeptL.trans {l : List Addr} {H1 : Hp} (x : KeptL l H H1) (y : KeptL l H1 H') : KeptL l H H' := fun b o h n => y b o (x b o h n) n
theorem KeptL.upd {l : List Addr} {a : Addr} {o : HO} (h : a ∈ l) : KeptL l H (L2.upd H a o) := fun b u hb n => by
  have hne : b ≠ a := fun e => n (by rw [e]; exact h)
  rw [upd_ne hne]
  exact hb
theorem KeptL.ofB {l : List Addr} {a : Addr} (h : a ∈ l) (e : ExB a H H') : KeptL l H H' := fun b u hb n => e b u (fun z => n (z ▸ h)) hb
end
section
variable {P : Program} {w : World} {K : PySem.W.Frag} {mg : Str → Option Value} {base : Heap} (T : Txt K mg)
def pNewName (K : PySem.W.Frag) : List V → Hp → V → Prop := fun vs H z => ∃ (L : Lay) (W : Works) (p : Addr) (qs : List Addr) (ws : List Bytes) (f : Str) (lp : Addr) (ps : List Addr) (most : Nat),
  vs = [.ref L.a, .ref p, .str f, .ref lp, .int (most : Int)] ∧ WNames K H L W ∧ WordsAt H p qs ws ∧ f.cps.size ≤ 5000 ∧ 1 ≤ f.cps.toList.length ∧ H lp = some (.lst (refV ps)) ∧ z = .int (newName W ws f.cps.toList ps.length most : Nat)
theorem ok_new_name_fault : FnOk P w K mg base CX0 4 T.new_name_fault.f T.new_name_fault.fd ["works", "words", "form", "parts", "most"] (spV (pNewName K)) := by
  refine T.new_name_fault.F.ok sc_new_name_fault (fun vs H Q E h => ?_) (fun cdv A outer s H vs Q E hr h => ?_)
  · obtain ⟨z, ⟨L, W, p, qs, ws, f, lp, ps, most, rfl, _⟩, _⟩ := h
    rfl
  · obtain ⟨z, ⟨L, W, p, qs, ws, f, lp, ps, most, rfl, hN, hW, hf, hf1, hp, rfl⟩, k⟩ := h
    refine ⟨_, (pss_cons (ps_if (PW.pt (pw_or (pt_not (pt_val (pe_call (ok_form_holds T) (hr.mono (by decide)) (by rfl) T.form_holds.g T.form_holds.F.kp T.form_holds.b .nil pass0 (pa_cons (pv 1) (pa_cons (pv 2) pa_nil))))) (pw_or1 (pt_val (pe_call (ok_is_kept T) (hr.mono (by decide)) (by rfl) T.is_kept.g T.is_kept.F.kp T.is_kept.b .nil pass0 (pa_cons (pe_ix ix_list (pv 1) pe_int (fun _ _ => rfl)) pa_nil))))))
    (pss_one (ps_ret pe_int)) pss_nil)
    (pss_cons (ps_if (pt_val (pe_call (ok_is_taken T) (hr.mono (by decide)) (by rfl) T.is_taken.g T.is_taken.F.kp T.is_taken.b .nil pass0 (pa_cons (pv 0) (pa_cons (pe_ix ix_list (pv 1) pe_int (fun _ _ => rfl)) pa_nil))))
    (pss_one (ps_ret pe_int)) pss_nil)
    (pss_cons (ps_if (pt_cmpR op_ge (pe_callB call_len_seq (by rfl) T.b_len (by decide +kernel) (pa_cons (pv 3) pa_nil)) (pv 4) (nomark _))
    (pss_one (ps_ret pe_int)) pss_nil)
    (pss_one (ps_ret pe_int))))), ?_⟩
    unfold newName at k
    have two : formOk ws f.cps.toList = true → 1 < ws.length := fun h => by
      unfold formOk at h
      rw [Bool.and_eq_true] at h
      have := of_decide_eq_true h.1
      omega
    refine q_when (b := !formOk ws f.cps.toList || kept.contains (wd ws 1)) (et_or (et_not (et_B (ev_call (ea_cons (ev_var rfl) (ea_cons (ev_var rfl) ea_nil)) (sv_of fun H2 e2 => ⟨p, qs, ws, f, rfl, hW.ex e2, hf, rfl⟩)))) fun hb => et_B (by
      have hb : formOk ws f.cps.toList = true := by simpa using hb
      obtain ⟨a, ha, h1, h2, h3⟩ := hW.get (two hb)
      exact ev_call (ea_cons (ev_ixL (j := 1) (ev_var rfl) ev_c (SqL.of hW.l) rfl (refV_get ha)) ea_nil) (sv_of fun H2 e2 => ⟨a, wd ws 1, rfl, e2 _ _ h1, rfl⟩))) (fun hb H1 e1 => ?_) (fun hb H1 e1 => ?_)
    · rw [if_pos hb] at k
      exact s_ret ev_c fun H2 e2 => k H2 (e1.trans e2)
    · rw [if_neg (by rw [hb]; decide)] at k
      have hb1 : formOk ws f.cps.toList = true := by
        cases h : formOk ws f.cps.toList
        · rw [h] at hb
          exact absurd hb (by simp)
        · rfl
      obtain ⟨a, ha, h1, h2, h3⟩ := hW.get (two hb1)
      refine q_when (et_B (ev_call (ea_cons (ev_var rfl) (ea_cons (ev_ixL (j := 1) (ev_var rfl) ev_c (SqL.of (e1 _ _ hW.l)) rfl (refV_get ha)) ea_nil)) (sv_of fun H2 e2 => ⟨L, W, a, wd ws 1, rfl, hN.ex (e1.trans e2), (e1.trans e2) _ _ h1, rfl⟩))) (fun hb H2 e2 => ?_) (fun hb H2 e2 => ?_)
      · rw [if_pos hb] at k
        exact s_ret ev_c fun H3 e3 => k H3 ((e1.trans e2).trans e3)
      · rw [if_neg (by rw [hb]; decide)] at k
        refine q_when (b := decide (most ≤ ps.length)) (et_is (et_test (ev_i (ev_len (ev_var rfl) (SqL.of ((e1.trans e2) _ _ hp))) (ev_var rfl))) (by
          rw [refV_len]
          by_cases h : most ≤ ps.length
          · rw [decide_eq_true h]
            exact decide_eq_true (by omega)
          · rw [decide_eq_false h]
            exact decide_eq_false (by omega))) (fun hb H3 e3 => ?_) (fun hb H3 e3 => ?_)
        · rw [if_pos (of_decide_eq_true hb)] at k
          exact s_ret ev_c fun H4 e4 => k H4 (((e1.trans e2).trans e3).trans e4)
        · rw [if_neg (of_decide_eq_false hb)] at k
          exact s_ret ev_c fun H4 e4 => k H4 (((e1.trans e2).trans e3).trans e4)
/-- a reader's promise: a fault, or the works with what was read -/
def RdK (T : Txt K mg) (L : Lay) (H : Hp) (Q : VK) (r : R) : Prop := match r with
  | .error k => ∀ H', Ex H H' → Q (.int (k : Nat)) H'
  | .ok X => ∀ L' H', SameL L L' → WAt T H' L' (raw X) → KeptL (ownL L) H H' → Q (.int 0) H'
/-- td stands, apart from the words -/
def Far (H : Hp) (qs : List Addr) : Prop := H T.td ≠ none ∧ ∀ q ∈ qs, q ≠ T.td
theorem ne_td {td p : Addr} {H H' : Hp} (h : H td ≠ none) (e : Ex H H') (hp : H' p = none) : p ≠ td := fun z => by
  cases hh : H td with
  | none => exact h hh
  | some o =>
    have := e _ _ hh
    rw [← z, hp] at this
    cases this
theorem ex_some {td : Addr} {H H' : Hp} (h : H td ≠ none) (e : Ex H H') : H' td ≠ none := fun z => ne_td h e z rfl
def spR (r : Works → List Bytes → R) : Sp := fun vs H Q _ => ∃ (L : Lay) (W : Works) (p : Addr) (qs : List Addr) (ws : List Bytes), vs = [.ref L.a, .ref p] ∧ WAt T H L (raw W) ∧ Wf W ∧ WordsAt H p qs ws ∧ canBe ws = true ∧ 1 ≤ ws.length ∧ Far T H qs ∧ RdK T L H Q (r W ws)
variable {T}
theorem RdK.err {L : Lay} {H H' : Hp} {Q : VK} {r : R} {k : Nat} (h : RdK T L H Q r) (e : r = .error k) (x : Ex H H') : Q (.int (k : Int)) H' := by
  subst e
  exact h H' x
theorem RdK.okk {L : Lay} {H : Hp} {Q : VK} {r : R} {X : Works} (h : RdK T L H Q r) (e : r = .ok X) : ∀ L' H', SameL L L' → WAt T H' L' (raw X) → KeptL (ownL L) H H' → Q (.int 0) H' := by
  subst e
  exact h
theorem RdK.is {L : Lay} {H : Hp} {Q : VK} {r r' : R} (h : RdK T L H Q r) (e : r = r') : RdK T L H Q r' := e ▸ h
variable (T)
theorem form_good {ws : List Bytes} {f : List Nat} {W : Works} {n most : Nat} (h : newName W ws f n most = 0) : formOk ws f = true := by
  unfold newName at h
  cases hf : formOk ws f
  · rw [hf] at h
    exact absurd h (by simp)
  · rfl
theorem form_len {ws : List Bytes} {f : List Nat} (h : formOk ws f = true) : ws.length = f.length + 1 := by
  unfold formOk at h
  rw [Bool.and_eq_true] at h
  exact of_decide_eq_true h.1
theorem form_num {ws : List Bytes} {f : List Nat} (h : formOk ws f = true) {i : Nat} (hi : i < f.length) (h9 : f.getD i 0 = 57) : (wd ws (i + 1)).all Mu07.digit = true := by
  unfold formOk at h
  rw [Bool.and_eq_true] at h
  have := List.all_eq_true.mp h.2 i (List.mem_range.mpr hi)
  rw [Bool.and_eq_true] at this
  have h2 := this.2
  rw [h9] at h2
  have : isNumber (wd ws (i + 1)) = true := by
    have e : ws.getD (i + 1) [] = wd ws (i + 1) := rfl
    rw [e] at h2
    cases hh : isNumber (wd ws (i + 1))
    · rw [hh] at h2
      exact absurd h2 (by decide)
    · rfl
  unfold isNumber at this
  rw [Bool.and_eq_true] at this
  exact this.2
theorem ok_read_arbor : FnOk P w K mg base CX0 5 T.read_arbor.f T.read_arbor.fd ["works", "words"] (spR T rArbor) := by
  refine T.read_arbor.F.ok sc_read_arbor (fun vs H Q E h => ?_) (fun cdv A outer s H vs Q E hr h => ?_)
  · obtain ⟨L, W, p, qs, ws, rfl, _⟩ := h
    rfl
  · obtain ⟨L, W, p, qs, ws, rfl, hA, hF, hW, hc, h1, hfr, k⟩ := h
    refine ⟨_, (pss_cons (ps_set (i := 2) sc_read_arbor.nd rfl (Or.inl rfl) (pe_call (ok_new_name_fault T) (hr.mono (by decide)) (by rfl) T.new_name_fault.g T.new_name_fault.F.kp T.new_name_fault.b .nil pass0 (pa_cons (pv 0) (pa_cons (pv 1) (pa_cons pe_str (pa_cons (pe_fld (pv 0) rfl) (pa_cons pe_int pa_nil)))))))
    (pss_cons (ps_if (pt_cmpR op_eq (pv 2) pe_int (nomark _))
    (pss_one (ps_expr (pe_bm PySem.F.plainAttrs_list PySem.F.slot_list_append PySem.F.type_list_append mt_append (pe_fld (pv 0) rfl) (pa_cons (pe_make T.Mover.mkC (ok_Mover_init T) (hr.mono (by decide)) (by rfl) T.Mover.g T.Mover.b .nil pass0 (pa_cons (pe_ix ix_list (pv 1) pe_int (fun _ _ => rfl)) (pa_cons (pe_callB call_len_seq (by rfl) T.b_len (by decide +kernel) (pa_cons (pe_fld (pv 0) rfl) pa_nil)) (pa_cons pe_non (pa_cons pe_int pa_nil))))) pa_nil)))) pss_nil)
    (pss_one (ps_ret (pv 2))))), ?_⟩
    have hs : ("n" : Str).cps.toList = [110] := by decide +kernel
    have arl : L.ar.length = W.arbors.length := hA.lens.ar
    refine q_asg (v := .int (newName W ws [110] W.arbors.length 12 : Nat)) (ev_call (ea_cons (ev_var rfl) (ea_cons (ev_var rfl) (ea_cons ev_c (ea_cons (ev_fld (ev_var rfl) (T.fd_works_arbors hA.w)) (ea_cons ev_c ea_nil))))) (sv_of fun H2 e2 => ⟨L, W, p, qs, ws, "n", L.la, L.ar, 12, rfl, (hA.ex e2).names, hW.ex e2, by decide +kernel, by rw [hs]; decide, e2 _ _ hA.lists.la, by rw [hs, arl]⟩)) fun H2 e2 => ?_
    have er : rArbor W ws = if 0 < newName W ws [110] W.arbors.length 12 then .error (newName W ws [110] W.arbors.length 12) else .ok { W with arbors := W.arbors ++ [wd ws 1] } := rfl
    refine q_when (b := decide (newName W ws [110] W.arbors.length 12 = 0)) (et_is (et_test (ev_eqI (ev_var rfl) ev_c)) (by
      by_cases h : newName W ws [110] W.arbors.length 12 = 0
      · rw [h]; rfl
      · rw [decide_eq_false h]
        have : ¬ ((newName W ws [110] W.arbors.length 12 : Nat) : Int) = 0 := by omega
        simpa using this)) (fun hb H3 e3 => ?_) (fun hb H3 e3 => ?_)
    · have h0 := of_decide_eq_true hb
      rw [h0, if_neg (by decide)] at er
      have hl := form_len (form_good h0)
      have hl : ws.length = 2 := hl
      obtain ⟨a, ha, g1, g2, g3⟩ := hW.get (i := 1) (by omega)
      have hA3 := hA.ex (e2.trans e3)
      refine s_appI hA3.lists.la (ev_fld (ev_var rfl) (T.fd_works_arbors hA3.w)) (ei_make (ea_cons (ev_ixL (j := 1) (ev_var rfl) ev_c (SqL.of ((e2.trans e3) _ _ hW.l)) rfl (refV_get ha)) (ea_cons (ev_len (ev_fld (ev_var rfl) (T.fd_works_arbors hA3.w)) (SqL.of hA3.lists.la)) (ea_cons ev_c (ea_cons ev_c ea_nil)))) (fun H4 e4 => ⟨a, (refV L.ar).length, .non, 1, rfl, rfl⟩)) (by rw [refV_len, arl]; have := hF.na; omega) fun np dx H4 hnp e4 h4 => ?_
      have e24 := (e2.trans e3).trans e4
      have A4 := (hA.ex e24).addArbor hF (p := np) (dx := dx) (na := a) (nm := wd ws 1) (by rw [h4, refV_len, arl]) ⟨⟨g2, hfr.2 _ (List.mem_of_getElem? ha)⟩, e24 _ _ g1⟩
      refine s_ret (ev_var rfl) fun H5 e5 => ?_
      rw [h0]
      exact k.okk er { L with ar := L.ar ++ [np] } H5 ⟨rfl, rfl, rfl, rfl, rfl, rfl, rfl, rfl⟩ (A4.ex e5) (((KeptL.of e24).trans (KeptL.upd (by simp [ownL]))).trans (KeptL.of e5))
    · have h0 := of_decide_eq_false hb
      rw [if_pos (by omega)] at er
      exact s_ret (ev_var rfl) fun H4 e4 => k.err er ((e2.trans e3).trans e4)
theorem ok_read_drive : FnOk P w K mg base CX0 5 T.read_drive.f T.read_drive.fd ["works", "words"] (spR T rDrive) := by
  refine T.read_drive.F.ok sc_read_drive (fun vs H Q E h => ?_) (fun cdv A outer s H vs Q E hr h => ?_)
  · obtain ⟨L, W, p, qs, ws, rfl, _⟩ := h
    rfl
  · obtain ⟨L, W, p, qs, ws, rfl, hA, hF, hW, hc, h1, hfr, k⟩ := h
    refine ⟨_, (pss_cons (ps_if (pt_not (pt_val (pe_call (ok_form_holds T) (hr.mono (by decide)) (by rfl) T.form_holds.g T.form_holds.F.kp T.form_holds.b .nil pass0 (pa_cons (pv 1) (pa_cons pe_str pa_nil)))))
    (pss_one (ps_ret pe_int)) pss_nil)
    (pss_cons (ps_set (i := 2) sc_read_drive.nd rfl (Or.inl rfl) (pe_call (ok_find T) (hr.mono (by decide)) (by rfl) T.find.g T.find.F.kp T.find.b .nil pass0 (pa_cons (pe_fld (pv 0) rfl) (pa_cons (pe_ix ix_list (pv 1) pe_int (fun _ _ => rfl)) pa_nil))))
    (pss_cons (ps_if (pt_cmpR op_isN (pv 2) pe_non (nomark _))
    (pss_one (ps_ret pe_int)) pss_nil)
    (pss_cons (ps_if (pt_cmpR op_notN (pe_fld (pv 0) rfl) pe_non (nomark _))
    (pss_one (ps_ret pe_int)) pss_nil)
    (pss_cons (ps_set (i := 3) sc_read_drive.nd rfl (Or.inl rfl) (pe_call (ok_number_of T) (hr.mono (by decide)) (by rfl) T.number_of.g T.number_of.F.kp T.number_of.b .nil pass0 (pa_cons (pe_ix ix_list (pv 1) pe_int (fun _ _ => rfl)) pa_nil)))
    (pss_cons (ps_if (pt_cmpR op_lt (pv 3) pe_int (nomark _))
    (pss_one (ps_ret pe_int)) pss_nil)
    (pss_cons (ps_fld (pv 0) (pv 2) rfl)
    (pss_cons (ps_fld (pv 0) (pv 3) rfl)
    (pss_one (ps_ret pe_int)))))))))), ?_⟩
    have hs : ("n9" : Str).cps.toList = [110, 57] := by decide +kernel
    unfold rDrive at k
    refine q_when (b := !formOk ws [110, 57]) (et_not (et_B (ev_call (ea_cons (ev_var rfl) (ea_cons ev_c ea_nil)) (sv_of fun H2 e2 => ⟨p, qs, ws, "n9", rfl, hW.ex e2, by decide +kernel, by rw [hs]⟩)))) (fun hb H2 e2 => ?_) (fun hb H2 e2 => ?_)
    · rw [if_pos hb] at k
      exact s_ret ev_c fun H3 e3 => k H3 (e2.trans e3)
    · rw [if_neg (by rw [hb]; decide)] at k
      have hf : formOk ws [110, 57] = true := by simpa using hb
      have hl : ws.length = 3 := form_len hf
      obtain ⟨a, ha, g1, g2, g3⟩ := hW.get (i := 1) (by omega)
      obtain ⟨b, hb', f1, f2, f3⟩ := hW.get (i := 2) (by omega)
      have hA2 := hA.ex e2
      refine q_asg (v := optV L.ar (indexOf W.arbors (wd ws 1))) (ev_call (ea_cons (ev_fld (ev_var rfl) (T.fd_works_arbors hA2.w)) (ea_cons (ev_ixL (j := 1) (ev_var rfl) ev_c (SqL.of (e2 _ _ hW.l)) rfl (refV_get ha)) ea_nil)) (sv_of fun H3 e3 => ⟨L.la, a, L.ar, W.arbors, wd ws 1, rfl, e3 _ _ hA2.lists.la, (hA2.ex e3).names.la.2.2, (e2.trans e3) _ _ g1, rfl⟩)) fun H3 e3 => ?_
      refine q_when (b := !(indexOf W.arbors (wd ws 1)).isSome) (et_test (ev_is (ev_op (ev_var rfl) ev_c rv_isN) (congrArg V.bl (by rw [← optV_none (ps := L.ar)]; simp)))) (fun hb2 H4 e4 => ?_) (fun hb2 H4 e4 => ?_)
      · have hi : indexOf W.arbors (wd ws 1) = none := by simpa using hb2
        rw [hi] at k
        exact s_ret ev_c fun H5 e5 => k H5 (((e2.trans e3).trans e4).trans e5)
      · cases hi : indexOf W.arbors (wd ws 1) with
        | none =>
          rw [hi] at hb2
          exact absurd hb2 (by decide)
        | some i =>
          rw [hi] at k
          have k : RdK T L H Q (if W.drive.isSome = true then .error 4 else if numberOf (wd ws 2) < 1 then .error 5 else .ok { W with drive := some (i, numberOf (wd ws 2)) }) := k
          have e24 := (e2.trans e3).trans e4
          have hA4 := hA.ex e24
          refine q_when (b := W.drive.isSome) (et_test (ev_is (ev_op (ev_fld (ev_var rfl) (T.fd_works_driver hA4.w)) ev_c rv_notN) (congrArg V.bl (by
            show (!decide (drvV L.ar W.drive = V.non)) = W.drive.isSome
            cases W.drive with
            | none => rfl
            | some x =>
              have : decide (drvV L.ar (some x) = V.non) = false := decide_eq_false fun z => by cases z
              rw [this]
              rfl)))) (fun hb3 H5 e5 => ?_) (fun hb3 H5 e5 => ?_)
          · rw [if_pos hb3] at k
            exact s_ret ev_c fun H6 e6 => k H6 ((e24.trans e5).trans e6)
          · rw [if_neg (by rw [hb3]; decide)] at k
            have e25 := e24.trans e5
            refine q_asg (v := .int (numberOf (wd ws 2) : Nat)) (ev_call (ea_cons (ev_ixL (j := 2) (ev_var rfl) ev_c (SqL.of (e25 _ _ hW.l)) rfl (refV_get hb')) ea_nil) (sv_of fun H6 e6 => ⟨b, wd ws 2, rfl, (e25.trans e6) _ _ f1, form_num hf (i := 1) (by decide) rfl, f3, rfl⟩)) fun H6 e6 => ?_
            refine q_when (b := decide (numberOf (wd ws 2) < 1)) (et_is (et_test (ev_i (ev_var rfl) ev_c)) (by
              by_cases h : numberOf (wd ws 2) < 1
              · rw [decide_eq_true h]
                exact decide_eq_true (by omega)
              · rw [decide_eq_false h]
                exact decide_eq_false (by omega))) (fun hb4 H7 e7 => ?_) (fun hb4 H7 e7 => ?_)
            · rw [if_pos (of_decide_eq_true hb4)] at k
              exact s_ret ev_c fun H8 e8 => k H8 (((e25.trans e6).trans e7).trans e8)
            · rw [if_neg (of_decide_eq_false hb4)] at k
              have e27 := (e25.trans e6).trans e7
              have hA7 := hA.ex e27
              have w7 := hA7.w
              refine q_stB w7 (ExB.refl L.a H7) (ev_var rfl) (ev_var rfl) T.Works.cl T.n_Works_driver worksF_len fun H8 h8 b8 => ?_
              unfold worksL at h8
              rw [worksF_put_driver] at h8
              refine q_stB h8 b8 (ev_var rfl) (ev_var rfl) T.Works.cl T.n_Works_seconds worksF_len fun H9 h9 b9 => ?_
              rw [worksF_put_seconds] at h9
              refine s_ret ev_c fun H10 e10 => ?_
              obtain ⟨l1, l2, l3, l4, l5, l6, l7, l8⟩ := hA7.atWorks b9
              have A9 : WAt T H9 L (raw { W with drive := some (i, numberOf (wd ws 2)) }) := ⟨h9, l1, ⟨hA.lens.ar, hA.lens.wh, hA.lens.me, hA.lens.st, hA.lens.ha, hA.lens.sk, hA.lens.ca, hA.lens.nha, hA.lens.nsk, hA.lens.nca⟩, l2, l3, l4, l5, l6, l7, l8⟩
              exact k L H10 (SameL.refl L) (A9.ex e10) (((KeptL.of e27).trans (KeptL.ofB (by simp [ownL]) b9)).trans (KeptL.of e10))
end
end Cw

/-! The walk through reading: wheels, stars, hands, strikers, calendars. -/
namespace Cw
open PySem PySem.Spec PyProof.Rows L2 Evl
open Mu07 (State Goes Works Star Q frac whole Bytes numberOf indexOf kept there goes daysOf trueLeap)
theorem optV_some {ps : List Addr} {i : Nat} (h : i < ps.length) : ∃ q, optV ps (some i) = .ref q ∧ ps[i]? = some q := ⟨ps[i], congrArg V.ref (getD_some (List.getElem?_eq_getElem h)), List.getElem?_eq_getElem h⟩
section
variable {K : PySem.W.Frag} {mg : Str → Option Value} {T : Txt K mg} {H H' : Hp} {L : Lay} {W : Works}
theorem WAt.goV_some {s : Mu07.State} (h : WAt T H L s) {g : Goes} (hg : GoesOk s.works g) : ∃ q, goV L (some g) = .ref q ∧ movOf L.ar L.st g = some q := by
  cases g with
  | arbor i =>
    have hi : i < L.ar.length := by
      rw [h.lens.ar]
      exact hg
    exact ⟨L.ar[i], congrArg V.ref (getD_some (List.getElem?_eq_getElem hi)), List.getElem?_eq_getElem hi⟩
  | star i =>
    have hi : i < L.st.length := by
      rw [h.lens.st]
      exact hg
    exact ⟨L.st[i], congrArg V.ref (getD_some (List.getElem?_eq_getElem hi)), List.getElem?_eq_getElem hi⟩
theorem withName_zero {ws : List Bytes} {f : List Nat} {n most : Nat} {k : R} (h : newName W ws f n most = 0) : withName W ws f n most k = k := by
  unfold withName
  rw [h, if_neg (by decide)]
theorem withName_pos {ws : List Bytes} {f : List Nat} {n most : Nat} {k : R} (h : 0 < newName W ws f n most) : withName W ws f n most k = .error (newName W ws f n most) := if_pos h
theorem dlt {a b : Nat} : decide ((a : Int) < (b : Int)) = decide (a < b) := by
  by_cases h : a < b
  · rw [decide_eq_true h, decide_eq_true (by omega)]
  · rw [decide_eq_false h, decide_eq_false (by omega)]
theorem dle {a b : Nat} : decide ((a : Int) ≤ (b : Int)) = decide (a ≤ b) := by
  by_cases h : a ≤ b
  · rw [decide_eq_true h, decide_eq_true (by omega)]
  · rw [decide_eq_false h, decide_eq_false (by omega)]
theorem isNone_opt {ps : List Addr} {o : Option Nat} : decide (optV ps o = V.non) = o.isNone := by
  have := optV_none (ps := ps) (o := o)
  cases o <;> simp_all
theorem isNone_go {o : Option Goes} : decide (goV L o = V.non) = o.isNone := by
  have := goV_none (L := L) (o := o)
  cases o <;> simp_all
end
section
variable {P : Program} {w : World} {K : PySem.W.Frag} {mg : Str → Option Value} {base : Heap} (T : Txt K mg)
theorem ok_read_wheel : FnOk P w K mg base CX0 5 T.read_wheel.f T.read_wheel.fd ["works", "words"] (spR T rWheel) := by
  refine T.read_wheel.F.ok sc_read_wheel (fun vs H Q E h => ?_) (fun cdv A outer s H vs Q E hr h => ?_)
  · obtain ⟨L, W, p, qs, ws, rfl, _⟩ := h
    rfl
  · obtain ⟨L, W, p, qs, ws, rfl, hA, hF, hW, hc, h1, hfr, k⟩ := h
    refine ⟨_, (pss_cons (ps_set (i := 2) sc_read_wheel.nd rfl (Or.inl rfl) (pe_call (ok_new_name_fault T) (hr.mono (by decide)) (by rfl) T.new_name_fault.g T.new_name_fault.F.kp T.new_name_fault.b .nil pass0 (pa_cons (pv 0) (pa_cons (pv 1) (pa_cons pe_str (pa_cons (pe_fld (pv 0) rfl) (pa_cons pe_int pa_nil)))))))
    (pss_cons (ps_if (pt_cmpR op_gt (pv 2) pe_int (nomark _))
    (pss_one (ps_ret (pv 2))) pss_nil)
    (pss_cons (ps_set (i := 3) sc_read_wheel.nd rfl (Or.inl rfl) (pe_call (ok_find T) (hr.mono (by decide)) (by rfl) T.find.g T.find.F.kp T.find.b .nil pass0 (pa_cons (pe_fld (pv 0) rfl) (pa_cons (pe_ix ix_list (pv 1) pe_int (fun _ _ => rfl)) pa_nil))))
    (pss_cons (ps_if (pt_cmpR op_isN (pv 3) pe_non (nomark _))
    (pss_one (ps_ret pe_int)) pss_nil)
    (pss_cons (ps_set (i := 4) sc_read_wheel.nd rfl (Or.inl rfl) (pe_call (ok_number_of T) (hr.mono (by decide)) (by rfl) T.number_of.g T.number_of.F.kp T.number_of.b .nil pass0 (pa_cons (pe_ix ix_list (pv 1) pe_int (fun _ _ => rfl)) pa_nil)))
    (pss_cons (ps_if (PW.pt (pw_or (pt_cmpR op_lt (pv 4) pe_int (nomark _)) (pw_or1 (pt_cmpR op_gt (pv 4) pe_int (nomark _)))))
    (pss_one (ps_ret pe_int)) pss_nil)
    (pss_cons (ps_expr (pe_bm PySem.F.plainAttrs_list PySem.F.slot_list_append PySem.F.type_list_append mt_append (pe_fld (pv 0) rfl) (pa_cons (pe_make T.Wheel.mkC (ok_Wheel_init T) (hr.mono (by decide)) (by rfl) T.Wheel.g T.Wheel.b .nil pass0 (pa_cons (pe_ix ix_list (pv 1) pe_int (fun _ _ => rfl)) (pa_cons (pv 3) (pa_cons (pv 4) pa_nil)))) pa_nil)))
    (pss_one (ps_ret pe_int))))))))), ?_⟩
    have hs : ("nn9" : Str).cps.toList = [110, 110, 57] := by decide +kernel
    have pl : L.wh.length = W.wheels.length := hA.lens.wh
    unfold rWheel at k
    refine q_asg (v := .int (newName W ws [110, 110, 57] W.wheels.length 24 : Nat)) (ev_call (ea_cons (ev_var rfl) (ea_cons (ev_var rfl) (ea_cons ev_c (ea_cons (ev_fld (ev_var rfl) (T.fd_works_wheels hA.w)) (ea_cons ev_c ea_nil))))) (sv_of fun H2 e2 => ⟨L, W, p, qs, ws, "nn9", L.lw, L.wh, 24, rfl, (hA.ex e2).names, hW.ex e2, by decide +kernel, by rw [hs]; decide, e2 _ _ hA.lists.lw, by rw [hs, pl]⟩)) fun H2 e2 => ?_
    refine q_when (b := decide (0 < newName W ws [110, 110, 57] W.wheels.length 24)) (et_is (et_test (ev_i (ev_var rfl) ev_c)) (dlt (a := 0))) (fun hb H3 e3 => ?_) (fun hb H3 e3 => ?_)
    · have h0 := of_decide_eq_true hb
      rw [withName_pos h0] at k
      exact s_ret (ev_var rfl) fun H4 e4 => k H4 ((e2.trans e3).trans e4)
    have h0 : newName W ws [110, 110, 57] W.wheels.length 24 = 0 := by
      have := of_decide_eq_false hb
      omega
    rw [withName_zero h0] at k
    have hf := form_good h0
    have e23 := e2.trans e3
    have hA3 := hA.ex e23
    have hl : ws.length = 4 := form_len hf
    obtain ⟨a1, ha1, g1, ne1, le1⟩ := hW.get (i := 1) (by omega)
    obtain ⟨a2, ha2, g2, ne2, le2⟩ := hW.get (i := 2) (by omega)
    obtain ⟨a3, ha3, g3, ne3, le3⟩ := hW.get (i := 3) (by omega)
    refine q_asg (v := optV L.ar (indexOf W.arbors (wd ws 2))) (ev_call (ea_cons (ev_fld (ev_var rfl) (T.fd_works_arbors hA3.w)) (ea_cons (ev_ixL (j := 2) (ev_var rfl) ev_c (SqL.of (e23 _ _ hW.l)) rfl (refV_get ha2)) ea_nil)) (sv_of fun H4 e4 => ⟨L.la, a2, L.ar, W.arbors, wd ws 2, rfl, e4 _ _ hA3.lists.la, (hA3.ex e4).names.la.2.2, (e23.trans e4) _ _ g2, rfl⟩)) fun H4 e4 => ?_
    refine q_when (b := (indexOf W.arbors (wd ws 2)).isNone) (et_test (ev_is (ev_op (ev_var rfl) ev_c rv_isN) (congrArg V.bl isNone_opt))) (fun hb2 H5 e5 => ?_) (fun hb2 H5 e5 => ?_)
    · have hi : indexOf W.arbors (wd ws 2) = none := by simpa using hb2
      rw [hi] at k
      exact s_ret ev_c fun H6 e6 => k H6 (((e23.trans e4).trans e5).trans e6)
    obtain ⟨g, hg⟩ : ∃ g, indexOf W.arbors (wd ws 2) = some g := by
      cases h : indexOf W.arbors (wd ws 2) with
      | none => rw [h] at hb2; exact absurd hb2 (by decide)
      | some g => exact ⟨g, rfl⟩
    rw [hg] at k ⊢
    obtain ⟨q, hq1, hq2⟩ := optV_some (ps := L.ar) (i := g) (by have := index_lt hg; rw [show L.ar.length = W.arbors.length from hA.lens.ar]; exact this)
    rw [hq1]
    have e25 := (e23.trans e4).trans e5
    refine q_asg (v := .int (numberOf (wd ws 3) : Nat)) (ev_call (ea_cons (ev_ixL (j := 3) (ev_var rfl) ev_c (SqL.of (e25 _ _ hW.l)) rfl (refV_get ha3)) ea_nil) (sv_of fun Hn en => ⟨a3, wd ws 3, rfl, (e25.trans en) _ _ g3, form_num hf (i := 2) (by decide) rfl, le3, rfl⟩)) fun H6 e26' => ?_
    have e26 := e25.trans e26'
    refine q_when (b := decide (numberOf (wd ws 3) < 6) || decide (400 < numberOf (wd ws 3))) (et_or (et_is (et_test (ev_i (ev_var rfl) ev_c)) (dlt (b := 6))) fun _ => et_is (et_test (ev_i (ev_var rfl) ev_c)) (dlt (a := 400))) (fun hb7 H7 e7 => ?_) (fun hb7 H7 e7 => ?_)
    · have hc7 : numberOf (wd ws 3) < 6 ∨ 400 < numberOf (wd ws 3) := by
        rcases Bool.or_eq_true_iff.mp hb7 with z | z
        · exact Or.inl (of_decide_eq_true z)
        · exact Or.inr (of_decide_eq_true z)
      dsimp only at k
      rw [if_pos hc7] at k
      exact s_ret ev_c fun H8 e8 => k H8 ((e26.trans e7).trans e8)
    have hc7 : ¬ (numberOf (wd ws 3) < 6 ∨ 400 < numberOf (wd ws 3)) := fun z => by
      rw [Bool.or_eq_false_iff] at hb7
      rcases z with z | z
      · exact of_decide_eq_false hb7.1 z
      · exact of_decide_eq_false hb7.2 z
    dsimp only at k
    rw [if_neg hc7] at k
    have e27 := e26.trans e7
    have hA7 := hA.ex e27
    refine q_appI hA7.lists.lw (ev_fld (ev_var rfl) (T.fd_works_wheels hA7.w)) (ei_make (ea_cons (ev_ixL (j := 1) (ev_var rfl) ev_c (SqL.of (e27 _ _ hW.l)) rfl (refV_get ha1)) (ea_cons (ev_var rfl) (ea_cons (ev_var rfl) ea_nil))) (fun H8 e8 => ⟨a1, q, (numberOf (wd ws 3) : Nat), rfl, rfl⟩)) (by rw [refV_len, pl]; have := hF.nw; omega) fun np dx H8 hnp e8 h8 => ?_
    have e28 := e27.trans e8
    have A8 := (hA.ex e28).addWheel (p := np) (dx := dx) (na := a1) (x := ⟨wd ws 1, g, numberOf (wd ws 3)⟩) h8 hq2 ⟨⟨ne1, hfr.2 _ (List.mem_of_getElem? ha1)⟩, e28 _ _ g1⟩
    exact s_ret ev_c fun H9 e9 => k { L with wh := L.wh ++ [np] } H9 ⟨rfl, rfl, rfl, rfl, rfl, rfl, rfl, rfl⟩ (A8.ex e9) (((KeptL.of e28).trans (KeptL.upd (by simp [ownL]))).trans (KeptL.of e9))
theorem ok_read_jump : FnOk P w K mg base CX0 5 T.read_jump.f T.read_jump.fd ["works", "words"] (spR T rJump) := by
  refine T.read_jump.F.ok sc_read_jump (fun vs H Q E h => ?_) (fun cdv A outer s H vs Q E hr h => ?_)
  · obtain ⟨L, W, p, qs, ws, rfl, _⟩ := h
    rfl
  · obtain ⟨L, W, p, qs, ws, rfl, hA, hF, hW, hc, h1, hfr, k⟩ := h
    refine ⟨_, (pss_cons (ps_set (i := 2) sc_read_jump.nd rfl (Or.inl rfl) (pe_call (ok_new_name_fault T) (hr.mono (by decide)) (by rfl) T.new_name_fault.g T.new_name_fault.F.kp T.new_name_fault.b .nil pass0 (pa_cons (pv 0) (pa_cons (pv 1) (pa_cons pe_str (pa_cons (pe_fld (pv 0) rfl) (pa_cons pe_int pa_nil)))))))
    (pss_cons (ps_if (pt_cmpR op_gt (pv 2) pe_int (nomark _))
    (pss_one (ps_ret (pv 2))) pss_nil)
    (pss_cons (ps_set (i := 3) sc_read_jump.nd rfl (Or.inl rfl) (pe_call (ok_find_mover T) (hr.mono (by decide)) (by rfl) T.find_mover.g T.find_mover.F.kp T.find_mover.b .nil pass0 (pa_cons (pv 0) (pa_cons (pe_ix ix_list (pv 1) pe_int (fun _ _ => rfl)) pa_nil))))
    (pss_cons (ps_if (pt_cmpR op_isN (pv 3) pe_non (nomark _))
    (pss_one (ps_ret pe_int)) pss_nil)
    (pss_cons (ps_set (i := 4) sc_read_jump.nd rfl (Or.inl rfl) (pe_call (ok_number_of T) (hr.mono (by decide)) (by rfl) T.number_of.g T.number_of.F.kp T.number_of.b .nil pass0 (pa_cons (pe_ix ix_list (pv 1) pe_int (fun _ _ => rfl)) pa_nil)))
    (pss_cons (ps_if (PW.pt (pw_or (pt_cmpR op_lt (pv 4) pe_int (nomark _)) (pw_or1 (pt_cmpR op_gt (pv 4) pe_int (nomark _)))))
    (pss_one (ps_ret pe_int)) pss_nil)
    (pss_cons (ps_expr (pe_bm PySem.F.plainAttrs_list PySem.F.slot_list_append PySem.F.type_list_append mt_append (pe_fld (pv 0) rfl) (pa_cons (pe_make T.Mover.mkC (ok_Mover_init T) (hr.mono (by decide)) (by rfl) T.Mover.g T.Mover.b .nil pass0 (pa_cons (pe_ix ix_list (pv 1) pe_int (fun _ _ => rfl)) (pa_cons (pe_callB call_len_seq (by rfl) T.b_len (by decide +kernel) (pa_cons (pe_fld (pv 0) rfl) pa_nil)) (pa_cons (pv 3) (pa_cons (pv 4) pa_nil))))) pa_nil)))
    (pss_one (ps_ret pe_int))))))))), ?_⟩
    have hs : ("nn9" : Str).cps.toList = [110, 110, 57] := by decide +kernel
    have pl : L.st.length = W.stars.length := hA.lens.st
    unfold rJump at k
    refine q_asg (v := .int (newName W ws [110, 110, 57] W.stars.length 6 : Nat)) (ev_call (ea_cons (ev_var rfl) (ea_cons (ev_var rfl) (ea_cons ev_c (ea_cons (ev_fld (ev_var rfl) (T.fd_works_stars hA.w)) (ea_cons ev_c ea_nil))))) (sv_of fun H2 e2 => ⟨L, W, p, qs, ws, "nn9", L.ls, L.st, 6, rfl, (hA.ex e2).names, hW.ex e2, by decide +kernel, by rw [hs]; decide, e2 _ _ hA.lists.ls, by rw [hs, pl]⟩)) fun H2 e2 => ?_
    refine q_when (b := decide (0 < newName W ws [110, 110, 57] W.stars.length 6)) (et_is (et_test (ev_i (ev_var rfl) ev_c)) (dlt (a := 0))) (fun hb H3 e3 => ?_) (fun hb H3 e3 => ?_)
    · have h0 := of_decide_eq_true hb
      rw [withName_pos h0] at k
      exact s_ret (ev_var rfl) fun H4 e4 => k H4 ((e2.trans e3).trans e4)
    have h0 : newName W ws [110, 110, 57] W.stars.length 6 = 0 := by
      have := of_decide_eq_false hb
      omega
    rw [withName_zero h0] at k
    have hf := form_good h0
    have e23 := e2.trans e3
    have hA3 := hA.ex e23
    have hl : ws.length = 4 := form_len hf
    obtain ⟨a1, ha1, g1, ne1, le1⟩ := hW.get (i := 1) (by omega)
    obtain ⟨a2, ha2, g2, ne2, le2⟩ := hW.get (i := 2) (by omega)
    obtain ⟨a3, ha3, g3, ne3, le3⟩ := hW.get (i := 3) (by omega)
    refine q_asg (v := goV L (goes W (wd ws 2))) (ev_call (ea_cons (ev_var rfl) (ea_cons (ev_ixL (j := 2) (ev_var rfl) ev_c (SqL.of (e23 _ _ hW.l)) rfl (refV_get ha2)) ea_nil)) (sv_of fun H4 e4 => ⟨L, W, a2, wd ws 2, rfl, (hA3.ex e4).names, (e23.trans e4) _ _ g2, rfl⟩)) fun H4 e4 => ?_
    refine q_when (b := (goes W (wd ws 2)).isNone) (et_test (ev_is (ev_op (ev_var rfl) ev_c rv_isN) (congrArg V.bl isNone_go))) (fun hb2 H5 e5 => ?_) (fun hb2 H5 e5 => ?_)
    · have hi : goes W (wd ws 2) = none := by simpa using hb2
      rw [hi] at k
      exact s_ret ev_c fun H6 e6 => k H6 (((e23.trans e4).trans e5).trans e6)
    obtain ⟨g, hg⟩ : ∃ g, goes W (wd ws 2) = some g := by
      cases h : goes W (wd ws 2) with
      | none => rw [h] at hb2; exact absurd hb2 (by decide)
      | some g => exact ⟨g, rfl⟩
    rw [hg] at k ⊢
    obtain ⟨q, hq1, hq2⟩ := hA.goV_some (g := g) (goes_ok hg)
    rw [hq1]
    have e25 := (e23.trans e4).trans e5
    refine q_asg (v := .int (numberOf (wd ws 3) : Nat)) (ev_call (ea_cons (ev_ixL (j := 3) (ev_var rfl) ev_c (SqL.of (e25 _ _ hW.l)) rfl (refV_get ha3)) ea_nil) (sv_of fun Hn en => ⟨a3, wd ws 3, rfl, (e25.trans en) _ _ g3, form_num hf (i := 2) (by decide) rfl, le3, rfl⟩)) fun H6 e26' => ?_
    have e26 := e25.trans e26'
    refine q_when (b := decide (numberOf (wd ws 3) < 2) || decide (400 < numberOf (wd ws 3))) (et_or (et_is (et_test (ev_i (ev_var rfl) ev_c)) (dlt (b := 2))) fun _ => et_is (et_test (ev_i (ev_var rfl) ev_c)) (dlt (a := 400))) (fun hb7 H7 e7 => ?_) (fun hb7 H7 e7 => ?_)
    · have hc7 : numberOf (wd ws 3) < 2 ∨ 400 < numberOf (wd ws 3) := by
        rcases Bool.or_eq_true_iff.mp hb7 with z | z
        · exact Or.inl (of_decide_eq_true z)
        · exact Or.inr (of_decide_eq_true z)
      dsimp only at k
      rw [if_pos hc7] at k
      exact s_ret ev_c fun H8 e8 => k H8 ((e26.trans e7).trans e8)
    have hc7 : ¬ (numberOf (wd ws 3) < 2 ∨ 400 < numberOf (wd ws 3)) := fun z => by
      rw [Bool.or_eq_false_iff] at hb7
      rcases z with z | z
      · exact of_decide_eq_false hb7.1 z
      · exact of_decide_eq_false hb7.2 z
    dsimp only at k
    rw [if_neg hc7] at k
    have e27 := e26.trans e7
    have hA7 := hA.ex e27
    refine q_appI hA7.lists.ls (ev_fld (ev_var rfl) (T.fd_works_stars hA7.w)) (ei_make (ea_cons (ev_ixL (j := 1) (ev_var rfl) ev_c (SqL.of (e27 _ _ hW.l)) rfl (refV_get ha1)) (ea_cons (ev_len (ev_fld (ev_var rfl) (T.fd_works_stars hA7.w)) (SqL.of hA7.lists.ls)) (ea_cons (ev_var rfl) (ea_cons (ev_var rfl) ea_nil)))) (fun H8 e8 => ⟨a1, (refV L.st).length, .ref q, (numberOf (wd ws 3) : Nat), rfl, rfl⟩)) (by rw [refV_len, pl]; have := hF.ns; omega) fun np dx H8 hnp e8 h8 => ?_
    have e28 := e27.trans e8
    have A8 := (hA.ex e28).addStar (p := np) (dx := dx) (na := a1) (x := ⟨wd ws 1, g, numberOf (wd ws 3)⟩) (by rw [h8, refV_len, pl]) hq2 ⟨⟨ne1, hfr.2 _ (List.mem_of_getElem? ha1)⟩, e28 _ _ g1⟩
    exact s_ret ev_c fun H9 e9 => k { L with st := L.st ++ [np] } H9 ⟨rfl, rfl, rfl, rfl, rfl, rfl, rfl, rfl⟩ (A8.ex e9) (((KeptL.of e28).trans (KeptL.upd (by simp [ownL]))).trans (KeptL.of e9))
theorem ok_read_hand : FnOk P w K mg base CX0 5 T.read_hand.f T.read_hand.fd ["works", "words"] (spR T rHand) := by
  refine T.read_hand.F.ok sc_read_hand (fun vs H Q E h => ?_) (fun cdv A outer s H vs Q E hr h => ?_)
  · obtain ⟨L, W, p, qs, ws, rfl, _⟩ := h
    rfl
  · obtain ⟨L, W, p, qs, ws, rfl, hA, hF, hW, hc, h1, hfr, k⟩ := h
    refine ⟨_, (pss_cons (ps_set (i := 2) sc_read_hand.nd rfl (Or.inl rfl) (pe_call (ok_new_name_fault T) (hr.mono (by decide)) (by rfl) T.new_name_fault.g T.new_name_fault.F.kp T.new_name_fault.b .nil pass0 (pa_cons (pv 0) (pa_cons (pv 1) (pa_cons pe_str (pa_cons (pe_fld (pv 0) rfl) (pa_cons pe_int pa_nil)))))))
    (pss_cons (ps_if (pt_cmpR op_gt (pv 2) pe_int (nomark _))
    (pss_one (ps_ret (pv 2))) pss_nil)
    (pss_cons (ps_set (i := 3) sc_read_hand.nd rfl (Or.inl rfl) (pe_call (ok_find_mover T) (hr.mono (by decide)) (by rfl) T.find_mover.g T.find_mover.F.kp T.find_mover.b .nil pass0 (pa_cons (pv 0) (pa_cons (pe_ix ix_list (pv 1) pe_int (fun _ _ => rfl)) pa_nil))))
    (pss_cons (ps_if (pt_cmpR op_isN (pv 3) pe_non (nomark _))
    (pss_one (ps_ret pe_int)) pss_nil)
    (pss_cons (ps_set (i := 4) sc_read_hand.nd rfl (Or.inl rfl) (pe_call (ok_number_of T) (hr.mono (by decide)) (by rfl) T.number_of.g T.number_of.F.kp T.number_of.b .nil pass0 (pa_cons (pe_ix ix_list (pv 1) pe_int (fun _ _ => rfl)) pa_nil)))
    (pss_cons (ps_set (i := 5) sc_read_hand.nd rfl (Or.inl rfl) (pe_call (ok_number_of T) (hr.mono (by decide)) (by rfl) T.number_of.g T.number_of.F.kp T.number_of.b .nil pass0 (pa_cons (pe_ix ix_list (pv 1) pe_int (fun _ _ => rfl)) pa_nil)))
    (pss_cons (ps_if (PW.pt (pw_or (pt_cmpR op_lt (pv 4) pe_int (nomark _)) (pw_or (pt_cmpR op_gt (pv 4) pe_int (nomark _)) (pw_or1 (pt_cmpR op_ge (pv 5) (pv 4) (nomark _))))))
    (pss_one (ps_ret pe_int)) pss_nil)
    (pss_cons (ps_expr (pe_bm PySem.F.plainAttrs_list PySem.F.slot_list_append PySem.F.type_list_append mt_append (pe_fld (pv 0) rfl) (pa_cons (pe_make T.Hand.mkC (ok_Hand_init T) (hr.mono (by decide)) (by rfl) T.Hand.g T.Hand.b .nil pass0 (pa_cons (pe_ix ix_list (pv 1) pe_int (fun _ _ => rfl)) (pa_cons (pv 3) (pa_cons (pv 4) (pa_cons (pv 5) pa_nil))))) pa_nil)))
    (pss_one (ps_ret pe_int)))))))))), ?_⟩
    have hs : ("nn99" : Str).cps.toList = [110, 110, 57, 57] := by decide +kernel
    have pl : L.ha.length = W.hands.length := hA.lens.ha
    unfold rHand at k
    refine q_asg (v := .int (newName W ws [110, 110, 57, 57] W.hands.length 12 : Nat)) (ev_call (ea_cons (ev_var rfl) (ea_cons (ev_var rfl) (ea_cons ev_c (ea_cons (ev_fld (ev_var rfl) (T.fd_works_hands hA.w)) (ea_cons ev_c ea_nil))))) (sv_of fun H2 e2 => ⟨L, W, p, qs, ws, "nn99", L.lh, L.ha, 12, rfl, (hA.ex e2).names, hW.ex e2, by decide +kernel, by rw [hs]; decide, e2 _ _ hA.lists.lh, by rw [hs, pl]⟩)) fun H2 e2 => ?_
    refine q_when (b := decide (0 < newName W ws [110, 110, 57, 57] W.hands.length 12)) (et_is (et_test (ev_i (ev_var rfl) ev_c)) (dlt (a := 0))) (fun hb H3 e3 => ?_) (fun hb H3 e3 => ?_)
    · have h0 := of_decide_eq_true hb
      rw [withName_pos h0] at k
      exact s_ret (ev_var rfl) fun H4 e4 => k H4 ((e2.trans e3).trans e4)
    have h0 : newName W ws [110, 110, 57, 57] W.hands.length 12 = 0 := by
      have := of_decide_eq_false hb
      omega
    rw [withName_zero h0] at k
    have hf := form_good h0
    have e23 := e2.trans e3
    have hA3 := hA.ex e23
    have hl : ws.length = 5 := form_len hf
    obtain ⟨a1, ha1, g1, ne1, le1⟩ := hW.get (i := 1) (by omega)
    obtain ⟨a2, ha2, g2, ne2, le2⟩ := hW.get (i := 2) (by omega)
    obtain ⟨a3, ha3, g3, ne3, le3⟩ := hW.get (i := 3) (by omega)
    obtain ⟨a4, ha4, g4, ne4, le4⟩ := hW.get (i := 4) (by omega)
    refine q_asg (v := goV L (goes W (wd ws 2))) (ev_call (ea_cons (ev_var rfl) (ea_cons (ev_ixL (j := 2) (ev_var rfl) ev_c (SqL.of (e23 _ _ hW.l)) rfl (refV_get ha2)) ea_nil)) (sv_of fun H4 e4 => ⟨L, W, a2, wd ws 2, rfl, (hA3.ex e4).names, (e23.trans e4) _ _ g2, rfl⟩)) fun H4 e4 => ?_
    refine q_when (b := (goes W (wd ws 2)).isNone) (et_test (ev_is (ev_op (ev_var rfl) ev_c rv_isN) (congrArg V.bl isNone_go))) (fun hb2 H5 e5 => ?_) (fun hb2 H5 e5 => ?_)
    · have hi : goes W (wd ws 2) = none := by simpa using hb2
      rw [hi] at k
      exact s_ret ev_c fun H6 e6 => k H6 (((e23.trans e4).trans e5).trans e6)
    obtain ⟨g, hg⟩ : ∃ g, goes W (wd ws 2) = some g := by
      cases h : goes W (wd ws 2) with
      | none => rw [h] at hb2; exact absurd hb2 (by decide)
      | some g => exact ⟨g, rfl⟩
    rw [hg] at k ⊢
    obtain ⟨q, hq1, hq2⟩ := hA.goV_some (g := g) (goes_ok hg)
    rw [hq1]
    have e25 := (e23.trans e4).trans e5
    refine q_asg (v := .int (numberOf (wd ws 3) : Nat)) (ev_call (ea_cons (ev_ixL (j := 3) (ev_var rfl) ev_c (SqL.of (e25 _ _ hW.l)) rfl (refV_get ha3)) ea_nil) (sv_of fun Hn en => ⟨a3, wd ws 3, rfl, (e25.trans en) _ _ g3, form_num hf (i := 2) (by decide) rfl, le3, rfl⟩)) fun H6 e26' => ?_
    have e26 := e25.trans e26'
    refine q_asg (v := .int (numberOf (wd ws 4) : Nat)) (ev_call (ea_cons (ev_ixL (j := 4) (ev_var rfl) ev_c (SqL.of (e26 _ _ hW.l)) rfl (refV_get ha4)) ea_nil) (sv_of fun Hn en => ⟨a4, wd ws 4, rfl, (e26.trans en) _ _ g4, form_num hf (i := 3) (by decide) rfl, le4, rfl⟩)) fun H7 e27' => ?_
    have e27 := e26.trans e27'
    refine q_when (b := decide (numberOf (wd ws 3) < 1) || (decide (1000 < numberOf (wd ws 3)) || decide (numberOf (wd ws 3) ≤ numberOf (wd ws 4)))) (et_or (et_is (et_test (ev_i (ev_var rfl) ev_c)) (dlt (b := 1))) fun _ => et_or (et_is (et_test (ev_i (ev_var rfl) ev_c)) (dlt (a := 1000))) fun _ => et_is (et_test (ev_i (ev_var rfl) (ev_var rfl))) dle) (fun hb8 H8 e8 => ?_) (fun hb8 H8 e8 => ?_)
    · have hc8 : numberOf (wd ws 3) < 1 ∨ 1000 < numberOf (wd ws 3) ∨ numberOf (wd ws 3) ≤ numberOf (wd ws 4) := by
        rcases Bool.or_eq_true_iff.mp hb8 with z | z
        · exact Or.inl (of_decide_eq_true z)
        · rcases Bool.or_eq_true_iff.mp z with z | z
          · exact Or.inr (Or.inl (of_decide_eq_true z))
          · exact Or.inr (Or.inr (of_decide_eq_true z))
      dsimp only at k
      rw [if_pos hc8] at k
      exact s_ret ev_c fun H9 e9 => k H9 ((e27.trans e8).trans e9)
    have hc8 : ¬ (numberOf (wd ws 3) < 1 ∨ 1000 < numberOf (wd ws 3) ∨ numberOf (wd ws 3) ≤ numberOf (wd ws 4)) := fun z => by
      rw [Bool.or_eq_false_iff, Bool.or_eq_false_iff] at hb8
      rcases z with z | z | z
      · exact of_decide_eq_false hb8.1 z
      · exact of_decide_eq_false hb8.2.1 z
      · exact of_decide_eq_false hb8.2.2 z
    dsimp only at k
    rw [if_neg hc8] at k
    have e28 := e27.trans e8
    have hA8 := hA.ex e28
    refine q_appI hA8.lists.lh (ev_fld (ev_var rfl) (T.fd_works_hands hA8.w)) (ei_make (ea_cons (ev_ixL (j := 1) (ev_var rfl) ev_c (SqL.of (e28 _ _ hW.l)) rfl (refV_get ha1)) (ea_cons (ev_var rfl) (ea_cons (ev_var rfl) (ea_cons (ev_var rfl) ea_nil)))) (fun H9 e9 => ⟨a1, q, (numberOf (wd ws 3) : Nat), (numberOf (wd ws 4) : Nat), rfl, rfl⟩)) (by rw [refV_len, pl]; have := hF.nh; omega) fun np dx H9 hnp e9 h9 => ?_
    have e29 := e28.trans e9
    have A9 := (hA.ex e29).addHand (hA8.noHa hnp) (p := np) (dx := dx) (na := a1) (x := ⟨wd ws 1, g, numberOf (wd ws 3), numberOf (wd ws 4)⟩) h9 hq2 ⟨⟨ne1, hfr.2 _ (List.mem_of_getElem? ha1)⟩, e29 _ _ g1⟩
    exact s_ret ev_c fun Hx ex => k { L with ha := L.ha ++ [np] } Hx ⟨rfl, rfl, rfl, rfl, rfl, rfl, rfl, rfl⟩ (A9.ex ex) (((KeptL.of e29).trans (KeptL.upd (by simp [ownL]))).trans (KeptL.of ex))
theorem ok_read_calendar : FnOk P w K mg base CX0 5 T.read_calendar.f T.read_calendar.fd ["works", "words"] (spR T rCalendar) := by
  refine T.read_calendar.F.ok sc_read_calendar (fun vs H Q E h => ?_) (fun cdv A outer s H vs Q E hr h => ?_)
  · obtain ⟨L, W, p, qs, ws, rfl, _⟩ := h
    rfl
  · obtain ⟨L, W, p, qs, ws, rfl, hA, hF, hW, hc, h1, hfr, k⟩ := h
    refine ⟨_, (pss_cons (ps_set (i := 2) sc_read_calendar.nd rfl (Or.inl rfl) (pe_call (ok_new_name_fault T) (hr.mono (by decide)) (by rfl) T.new_name_fault.g T.new_name_fault.F.kp T.new_name_fault.b .nil pass0 (pa_cons (pv 0) (pa_cons (pv 1) (pa_cons pe_str (pa_cons (pe_fld (pv 0) rfl) (pa_cons pe_int pa_nil)))))))
    (pss_cons (ps_if (pt_cmpR op_gt (pv 2) pe_int (nomark _))
    (pss_one (ps_ret (pv 2))) pss_nil)
    (pss_cons (ps_set (i := 3) sc_read_calendar.nd rfl (Or.inl rfl) (pe_call (ok_find_mover T) (hr.mono (by decide)) (by rfl) T.find_mover.g T.find_mover.F.kp T.find_mover.b .nil pass0 (pa_cons (pv 0) (pa_cons (pe_ix ix_list (pv 1) pe_int (fun _ _ => rfl)) pa_nil))))
    (pss_cons (ps_if (pt_cmpR op_isN (pv 3) pe_non (nomark _))
    (pss_one (ps_ret pe_int)) pss_nil)
    (pss_cons (ps_set (i := 4) sc_read_calendar.nd rfl (Or.inl rfl) (pe_call (ok_number_of T) (hr.mono (by decide)) (by rfl) T.number_of.g T.number_of.F.kp T.number_of.b .nil pass0 (pa_cons (pe_ix ix_list (pv 1) pe_int (fun _ _ => rfl)) pa_nil)))
    (pss_cons (ps_set (i := 5) sc_read_calendar.nd rfl (Or.inl rfl) (pe_call (ok_number_of T) (hr.mono (by decide)) (by rfl) T.number_of.g T.number_of.F.kp T.number_of.b .nil pass0 (pa_cons (pe_ix ix_list (pv 1) pe_int (fun _ _ => rfl)) pa_nil)))
    (pss_cons (ps_set (i := 6) sc_read_calendar.nd rfl (Or.inl rfl) (pe_call (ok_number_of T) (hr.mono (by decide)) (by rfl) T.number_of.g T.number_of.F.kp T.number_of.b .nil pass0 (pa_cons (pe_ix ix_list (pv 1) pe_int (fun _ _ => rfl)) pa_nil)))
    (pss_cons (ps_if (PW.pt (pw_or (pt_cmpR op_lt (pv 4) pe_int (nomark _)) (pw_or (pt_cmpR op_gt (pv 4) pe_int (nomark _)) (pw_or (pt_cmpR op_lt (pv 5) pe_int (nomark _)) (pw_or1 (pt_cmpR op_gt (pv 5) pe_int (nomark _)))))))
    (pss_one (ps_ret pe_int)) pss_nil)
    (pss_cons (ps_if (PW.pt (pw_or (pt_cmpR op_lt (pv 6) pe_int (nomark _)) (pw_or1 (pt_cmpR op_gt (pv 6) (pe_call (ok_month_days T) (hr.mono (by decide)) (by rfl) T.month_days.g T.month_days.F.kp T.month_days.b .nil pass0 (pa_cons (pv 4) (pa_cons (pv 5) (pa_cons pe_bl pa_nil)))) (nomark _)))))
    (pss_one (ps_ret pe_int)) pss_nil)
    (pss_cons (ps_expr (pe_bm PySem.F.plainAttrs_list PySem.F.slot_list_append PySem.F.type_list_append mt_append (pe_fld (pv 0) rfl) (pa_cons (pe_make T.Calendar.mkC (ok_Calendar_init T) (hr.mono (by decide)) (by rfl) T.Calendar.g T.Calendar.b .nil pass0 (pa_cons (pe_ix ix_list (pv 1) pe_int (fun _ _ => rfl)) (pa_cons (pv 3) (pa_cons (pv 4) (pa_cons (pv 5) (pa_cons (pv 6) pa_nil)))))) pa_nil)))
    (pss_one (ps_ret pe_int)))))))))))), ?_⟩
    have hs : ("nn999" : Str).cps.toList = [110, 110, 57, 57, 57] := by decide +kernel
    have pl : L.ca.length = W.calendars.length := hA.lens.ca
    unfold rCalendar at k
    refine q_asg (v := .int (newName W ws [110, 110, 57, 57, 57] W.calendars.length 2 : Nat)) (ev_call (ea_cons (ev_var rfl) (ea_cons (ev_var rfl) (ea_cons ev_c (ea_cons (ev_fld (ev_var rfl) (T.fd_works_calendars hA.w)) (ea_cons ev_c ea_nil))))) (sv_of fun H2 e2 => ⟨L, W, p, qs, ws, "nn999", L.lc, L.ca, 2, rfl, (hA.ex e2).names, hW.ex e2, by decide +kernel, by rw [hs]; decide, e2 _ _ hA.lists.lc, by rw [hs, pl]⟩)) fun H2 e2 => ?_
    refine q_when (b := decide (0 < newName W ws [110, 110, 57, 57, 57] W.calendars.length 2)) (et_is (et_test (ev_i (ev_var rfl) ev_c)) (dlt (a := 0))) (fun hb H3 e3 => ?_) (fun hb H3 e3 => ?_)
    · have h0 := of_decide_eq_true hb
      rw [withName_pos h0] at k
      exact s_ret (ev_var rfl) fun H4 e4 => k H4 ((e2.trans e3).trans e4)
    have h0 : newName W ws [110, 110, 57, 57, 57] W.calendars.length 2 = 0 := by
      have := of_decide_eq_false hb
      omega
    rw [withName_zero h0] at k
    have hf := form_good h0
    have e23 := e2.trans e3
    have hA3 := hA.ex e23
    have hl : ws.length = 6 := form_len hf
    obtain ⟨a1, ha1, g1, ne1, le1⟩ := hW.get (i := 1) (by omega)
    obtain ⟨a2, ha2, g2, ne2, le2⟩ := hW.get (i := 2) (by omega)
    obtain ⟨a3, ha3, g3, ne3, le3⟩ := hW.get (i := 3) (by omega)
    obtain ⟨a4, ha4, g4, ne4, le4⟩ := hW.get (i := 4) (by omega)
    obtain ⟨a5, ha5, g5, ne5, le5⟩ := hW.get (i := 5) (by omega)
    refine q_asg (v := goV L (goes W (wd ws 2))) (ev_call (ea_cons (ev_var rfl) (ea_cons (ev_ixL (j := 2) (ev_var rfl) ev_c (SqL.of (e23 _ _ hW.l)) rfl (refV_get ha2)) ea_nil)) (sv_of fun H4 e4 => ⟨L, W, a2, wd ws 2, rfl, (hA3.ex e4).names, (e23.trans e4) _ _ g2, rfl⟩)) fun H4 e4 => ?_
    refine q_when (b := (goes W (wd ws 2)).isNone) (et_test (ev_is (ev_op (ev_var rfl) ev_c rv_isN) (congrArg V.bl isNone_go))) (fun hb2 H5 e5 => ?_) (fun hb2 H5 e5 => ?_)
    · have hi : goes W (wd ws 2) = none := by simpa using hb2
      rw [hi] at k
      exact s_ret ev_c fun H6 e6 => k H6 (((e23.trans e4).trans e5).trans e6)
    obtain ⟨g, hg⟩ : ∃ g, goes W (wd ws 2) = some g := by
      cases h : goes W (wd ws 2) with
      | none => rw [h] at hb2; exact absurd hb2 (by decide)
      | some g => exact ⟨g, rfl⟩
    rw [hg] at k ⊢
    obtain ⟨q, hq1, hq2⟩ := hA.goV_some (g := g) (goes_ok hg)
    rw [hq1]
    have e25 := (e23.trans e4).trans e5
    refine q_asg (v := .int (numberOf (wd ws 3) : Nat)) (ev_call (ea_cons (ev_ixL (j := 3) (ev_var rfl) ev_c (SqL.of (e25 _ _ hW.l)) rfl (refV_get ha3)) ea_nil) (sv_of fun Hn en => ⟨a3, wd ws 3, rfl, (e25.trans en) _ _ g3, form_num hf (i := 2) (by decide) rfl, le3, rfl⟩)) fun H6 e26' => ?_
    have e26 := e25.trans e26'
    refine q_asg (v := .int (numberOf (wd ws 4) : Nat)) (ev_call (ea_cons (ev_ixL (j := 4) (ev_var rfl) ev_c (SqL.of (e26 _ _ hW.l)) rfl (refV_get ha4)) ea_nil) (sv_of fun Hn en => ⟨a4, wd ws 4, rfl, (e26.trans en) _ _ g4, form_num hf (i := 3) (by decide) rfl, le4, rfl⟩)) fun H7 e27' => ?_
    have e27 := e26.trans e27'
    refine q_asg (v := .int (numberOf (wd ws 5) : Nat)) (ev_call (ea_cons (ev_ixL (j := 5) (ev_var rfl) ev_c (SqL.of (e27 _ _ hW.l)) rfl (refV_get ha5)) ea_nil) (sv_of fun Hn en => ⟨a5, wd ws 5, rfl, (e27.trans en) _ _ g5, form_num hf (i := 4) (by decide) rfl, le5, rfl⟩)) fun H8 e28' => ?_
    have e28 := e27.trans e28'
    generalize hy : numberOf (wd ws 3) = y at *
    generalize hm : numberOf (wd ws 4) = m at *
    generalize hd : numberOf (wd ws 5) = d at *
    refine q_when (b := decide (y < 1) || (decide (9999 < y) || (decide (m < 1) || decide (12 < m)))) (et_or (et_is (et_test (ev_i (ev_var rfl) ev_c)) (dlt (b := 1))) fun _ => et_or (et_is (et_test (ev_i (ev_var rfl) ev_c)) (dlt (a := 9999))) fun _ => et_or (et_is (et_test (ev_i (ev_var rfl) ev_c)) (dlt (b := 1))) fun _ => et_is (et_test (ev_i (ev_var rfl) ev_c)) (dlt (a := 12))) (fun hb9 H9 e9 => ?_) (fun hb9 H9 e9 => ?_)
    · have hc9 : y < 1 ∨ 9999 < y ∨ m < 1 ∨ 12 < m := by
        rcases Bool.or_eq_true_iff.mp hb9 with z | z
        · exact Or.inl (of_decide_eq_true z)
        · rcases Bool.or_eq_true_iff.mp z with z | z
          · exact Or.inr (Or.inl (of_decide_eq_true z))
          · rcases Bool.or_eq_true_iff.mp z with z | z
            · exact Or.inr (Or.inr (Or.inl (of_decide_eq_true z)))
            · exact Or.inr (Or.inr (Or.inr (of_decide_eq_true z)))
      dsimp only at k
      rw [if_pos hc9] at k
      exact s_ret ev_c fun Hx ex => k Hx ((e28.trans e9).trans ex)
    have hc9 : ¬ (y < 1 ∨ 9999 < y ∨ m < 1 ∨ 12 < m) := fun z => by
      rw [Bool.or_eq_false_iff, Bool.or_eq_false_iff, Bool.or_eq_false_iff] at hb9
      rcases z with z | z | z | z
      · exact of_decide_eq_false hb9.1 z
      · exact of_decide_eq_false hb9.2.1 z
      · exact of_decide_eq_false hb9.2.2.1 z
      · exact of_decide_eq_false hb9.2.2.2 z
    dsimp only at k
    rw [if_neg hc9] at k
    have e29 := e28.trans e9
    refine q_when (b := decide (d < 1) || decide (daysOf (trueLeap (y : Int)) m < d)) (et_or (et_is (et_test (ev_i (ev_var rfl) ev_c)) (dlt (b := 1))) fun _ => et_is (et_test (ev_i (ev_var rfl) (ev_call (ea_cons (ev_var rfl) (ea_cons (ev_var rfl) (ea_cons ev_c ea_nil))) (sv_of fun _ _ => ⟨y, m, false, rfl, by omega, by omega, rfl⟩)))) dlt) (fun hb10 H10 e10 => ?_) (fun hb10 H10 e10 => ?_)
    · have hc10 : d < 1 ∨ daysOf (trueLeap (y : Int)) m < d := by
        rcases Bool.or_eq_true_iff.mp hb10 with z | z
        · exact Or.inl (of_decide_eq_true z)
        · exact Or.inr (of_decide_eq_true z)
      rw [if_pos hc10] at k
      exact s_ret ev_c fun Hx ex => k Hx ((e29.trans e10).trans ex)
    have hc10 : ¬ (d < 1 ∨ daysOf (trueLeap (y : Int)) m < d) := fun z => by
      rw [Bool.or_eq_false_iff] at hb10
      rcases z with z | z
      · exact of_decide_eq_false hb10.1 z
      · exact of_decide_eq_false hb10.2 z
    rw [if_neg hc10] at k
    have e210 := e29.trans e10
    have hA8 := hA.ex e210
    refine q_appI hA8.lists.lc (ev_fld (ev_var rfl) (T.fd_works_calendars hA8.w)) (ei_make (ea_cons (ev_ixL (j := 1) (ev_var rfl) ev_c (SqL.of (e210 _ _ hW.l)) rfl (refV_get ha1)) (ea_cons (ev_var rfl) (ea_cons (ev_var rfl) (ea_cons (ev_var rfl) (ea_cons (ev_var rfl) ea_nil))))) (fun _ _ => ⟨a1, q, (y : Int), (m : Int), (d : Int), rfl, rfl⟩)) (by rw [refV_len, pl]; have := hF.nc; omega) fun np dx H11 hnp e11 h11 => ?_
    have e211 := e210.trans e11
    have A11 := (hA.ex e211).addCal (hA8.noCa hnp) (p := np) (dx := dx) (na := a1) (x := ⟨wd ws 1, g, ⟨(y : Int), m, d⟩⟩) h11 hq2 ⟨⟨ne1, hfr.2 _ (List.mem_of_getElem? ha1)⟩, e211 _ _ g1⟩
    exact s_ret ev_c fun Hx ex => k { L with ca := L.ca ++ [np] } Hx ⟨rfl, rfl, rfl, rfl, rfl, rfl, rfl, rfl⟩ (A11.ex ex) (((KeptL.of e211).trans (KeptL.upd (by simp [ownL]))).trans (KeptL.of ex))
end
end Cw

/-! The walk through reading: racks, counts, meshes. -/
namespace Cw
open PySem PySem.Spec PyProof.Rows L2 Evl
open Mu07 (State Goes Works Star Q frac whole Bytes numberOf indexOf kept there goes daysOf trueLeap ascii)
section
variable {K : PySem.W.Frag} {σ : L2.St} {H H' : Hp} {t1 t2 t3 t4 ta te : TE} {v1 v2 v4 z : V} {tz : TS} {D : Ends}
/-- a new instance, a new list in it -/
def EvIx (te : TE) (σ : L2.St) (H : Hp) (C : Addr) (xs : List V) (fs : Addr → List (Str × V)) : Prop := ∀ H1, Ex H H1 → ∀ Q : VK, (∀ ns p dx H2, H1 p = none → Ex H1 H2 → H2 p = some (.ins C dx (fs ns)) → Q (.ref p) H2) → te σ H1 Q
theorem eix_make {C : Addr} {pre : List V → Hp → List (Str × V) → Prop} {dvs xs : List V} {E : XK} (h1 : Ev t1 σ H v1) (h2 : Ev t2 σ H v2) (h3 : EvL t3 σ H xs) (h4 : Ev t4 σ H v4) (fs : Addr → List (Str × V)) (hs : ∀ ns H1, pre ([v1, v2, .ref ns, v4] ++ dvs) H1 (fs ns)) :
    EvIx (tMake C (spI C pre) dvs E (tCons t1 (tCons t2 (tCons t3 (tCons t4 tNil))))) σ H C xs fs := fun H1 e Q q =>
  h1 H1 e _ fun H2 e2 => h2 H2 (e.trans e2) _ fun H3 e3 => h3 H3 ((e.trans e2).trans e3) _ fun ns H4 nn e4 hn => h4 H4 (((e.trans e2).trans e3).trans e4) _ fun H5 e5 x dx nx ndx ne => by
    have e15 := ((e2.trans e3).trans e4).trans e5
    exact ⟨x, dx, [v1, v2, .ref ns, v4] ++ dvs, fs ns, rfl, upd_same, hs ns _, fun H' hx eb => ⟨rfl, q ns x dx H' (fresh_back e15 nx) (e15.trans fun b o hb => by
      refine eb b o (ne_of_none hb nx) ?_
      rw [upd_ne (ne_of_none hb nx), upd_ne (ne_of_none hb ndx)]
      exact hb) hx⟩⟩
theorem q_appIx {l : Addr} {xs ys : List V} {C : Addr} {fs : Addr → List (Str × V)} (hl : H l = some (.lst xs)) (ha : Ev ta σ H (.ref l)) (h : EvIx te σ H C ys fs) (hz : xs.length < 100000) (k : ∀ ns p dx H1, H p = none → Ex H H1 → H1 p = some (.ins C dx (fs ns)) → tz D σ (upd H1 l (.lst (xs ++ [.ref p])))) :
    tSeq (tDrop (tBM K "list" rAppend ta (tCons te tNil))) tz D σ H := ha H (Ex.refl H) _ fun H1 e1 =>
  ⟨Or.inl ⟨rfl, xs, sq_of (e1 l _ hl)⟩, h H1 e1 _ fun ns p dx H2 hp e2 h2 => ⟨l, xs, .ref p, rfl, rfl, e2 l _ (e1 l _ hl), sz_lt hz, k ns p dx H2 (fresh_back e1 hp) (e1.trans e2) h2⟩⟩
/-- a call with a new list ahead -/
theorem ev_callL {sp : Sp} {dvs xs us : List V} {E : XK} {tr : TA} (h : EvL te σ H xs) (hr : ∀ H1, Ex H H1 → EvA tr σ H1 us) (hs : ∀ p H1, Ex H H1 → H1 p = some (.lst xs) → SpV sp ((.ref p :: us) ++ dvs) H1 z) : Ev (tCall sp dvs E (tCons te tr)) σ H z := fun H1 e Q q =>
  h H1 e _ fun p H2 np e2 hp => hr H2 (e.trans e2) H2 (Ex.refl H2) _ fun H3 e3 => hs p H3 ((e.trans e2).trans e3) (e3 _ _ hp) H3 (Ex.refl H3) Q (fun H4 e4 => q H4 ((e2.trans e3).trans e4)) E
theorem rv_addS {a b : Str} (h : a.length + b.length ≤ sizeLine) : RV (fun x y H Q => ∃ i j, x = .str i ∧ y = .str j ∧ i.length + j.length ≤ sizeLine ∧ Q (.str (i ++ j)) H) (.str a) (.str b) H (.str (a ++ b)) := fun H1 _ _ q => ⟨a, b, rfl, rfl, h, q H1 (Ex.refl H1)⟩
theorem cut_from (xs : List V) (k : Nat) : cutV xs (some (k : Int)) none = xs.drop k := by
  unfold cutV
  rw [HT.sIx_nat, HT.sIx_none]
  by_cases h : k ≤ xs.length
  · rw [Nat.min_eq_left h, List.take_of_length_le (by rw [List.length_drop]; exact Nat.le_refl _)]
  · rw [Nat.min_eq_right (by omega), List.drop_of_length_le (Nat.le_refl _), List.drop_of_length_le (by omega), List.take_nil]
theorem cut_to (xs : List V) (k : Nat) : cutV xs none (some (k : Int)) = xs.take k := by
  unfold cutV
  rw [HT.sIx_nat, HT.sIx_none, List.drop_zero, Nat.sub_zero]
  by_cases h : k ≤ xs.length
  · rw [Nat.min_eq_left h]
  · rw [Nat.min_eq_right (by omega), List.take_of_length_le (Nat.le_refl _), List.take_of_length_le (by omega)]
theorem given_all (n : Nat) (v : Nat → V) : given n (fun _ => true) v = (List.range n).map v := by
  unfold given
  rw [List.filter_eq_self.mpr fun _ _ => rfl]
theorem refV_drop (l : List Addr) (k : Nat) : (refV l).drop k = refV (l.drop k) := by
  unfold refV
  rw [List.map_drop]
theorem refV_take (l : List Addr) (k : Nat) : (refV l).take k = refV (l.take k) := by
  unfold refV
  rw [List.map_take]
theorem WordsAt.drop {p p' : Addr} {qs : List Addr} {ws : List Bytes} (h : WordsAt H p qs ws) (k : Nat) (hp : H p' = some (.lst (refV (qs.drop k)))) : WordsAt H p' (qs.drop k) (ws.drop k) := by
  refine ⟨hp, ⟨by rw [List.length_map, List.length_drop, List.length_drop, h.len], fun i a r ha hr => ?_⟩, fun w hw => h.ne w (List.mem_of_mem_drop hw), by rw [List.length_drop]; have := h.few; omega⟩
  rw [List.getElem?_drop] at ha
  rw [List.map_drop, List.getElem?_drop] at hr
  exact h.r.at_ _ a r ha hr
theorem WordsAt.take {p p' : Addr} {qs : List Addr} {ws : List Bytes} (h : WordsAt H p qs ws) (k : Nat) (hp : H p' = some (.lst (refV (qs.take k)))) : WordsAt H p' (qs.take k) (ws.take k) := by
  refine ⟨hp, ⟨by rw [List.length_map, List.length_take, List.length_take, h.len], fun i a r ha hr => ?_⟩, fun w hw => h.ne w (List.mem_of_mem_take hw), by rw [List.length_take]; have := h.few; omega⟩
  have hi : i < k := by
    have := (List.getElem?_eq_some_iff.mp ha).1
    rw [List.length_take] at this
    omega
  rw [List.getElem?_take_of_lt hi] at ha
  rw [List.map_take, List.getElem?_take_of_lt hi] at hr
  exact h.r.at_ _ a r ha hr
/-- the greatest of some numbers -/
def maxOf (l : List Nat) : Nat := l.foldl max 0
theorem maxOf_ge : ∀ (l : List Nat) (a : Nat), a ≤ l.foldl max a ∧ ∀ y ∈ l, y ≤ l.foldl max a
  | [], a => ⟨Nat.le_refl _, fun y h => by simp at h⟩
  | x :: r, a => by
    obtain ⟨h1, h2⟩ := maxOf_ge r (max a x)
    refine ⟨?_, fun y hy => ?_⟩
    · rw [List.foldl_cons]
      omega
    · rw [List.foldl_cons]
      rcases List.mem_cons.mp hy with rfl | h
      · omega
      · exact h2 y h
theorem maxOf_in : ∀ (l : List Nat) (a : Nat), l.foldl max a = a ∨ l.foldl max a ∈ l
  | [], a => Or.inl rfl
  | x :: r, a => by
    rw [List.foldl_cons]
    rcases maxOf_in r (max a x) with h | h
    · rw [h]
      by_cases hx : a ≤ x
      · rw [Nat.max_eq_right hx]
        exact Or.inr (List.mem_cons_self ..)
      · rw [Nat.max_eq_left (by omega)]
        exact Or.inl rfl
    · exact Or.inr (List.mem_cons_of_mem _ h)
theorem ev_maxL {a : Addr} {l : List Nat} (ha : Ev ta σ H (.ref a)) (hl : H a = some (.lst (byV l))) (ne : 0 < l.length) : Ev (tCB (rMax K) (tCons ta tNil)) σ H (.int (maxOf l : Nat)) := fun H1 e Q q =>
  ha H1 e _ fun H2 e2 => ⟨a, byZ l, rfl, by rw [← byV_z]; exact SqL.of (e2 _ _ (e _ _ hl)), by show 0 < (l.map _).length; rw [List.length_map]; exact ne, fun m hm hmax => by
    obtain ⟨n, hn, rfl⟩ := List.mem_map.mp hm
    have h1 : n ≤ maxOf l := (maxOf_ge l 0).2 n hn
    have h2 : maxOf l ≤ n := by
      rcases maxOf_in l 0 with h | h
      · show l.foldl max 0 ≤ n
        rw [h]
        exact Nat.zero_le _
      · have := hmax ((maxOf l : Nat) : Int) (List.mem_map.mpr ⟨_, h, rfl⟩)
        omega
    have : maxOf l = n := Nat.le_antisymm h2 h1
    rw [← this]
    exact q H2 e2⟩
theorem maxOf_any (l : List Nat) (n : Nat) : decide (n < maxOf l) = l.any (fun (k : Nat) => decide (n < k)) := by
  by_cases h : n < maxOf l
  · rw [decide_eq_true h]
    symm
    rw [List.any_eq_true]
    rcases maxOf_in l 0 with g | g
    · unfold maxOf at h
      omega
    · exact ⟨_, g, decide_eq_true h⟩
  · rw [decide_eq_false h]
    symm
    rw [List.any_eq_false]
    intro x hx
    have := (maxOf_ge l 0).2 x hx
    unfold maxOf at h
    simp
    omega
end
section
variable {P : Program} {w : World} {K : PySem.W.Frag} {mg : Str → Option Value} {base : Heap} (T : Txt K mg)
theorem ok_read_rack : FnOk P w K mg base CX0 5 T.read_rack.f T.read_rack.fd ["works", "words"] (spR T rRack) := by
  refine T.read_rack.F.ok sc_read_rack (fun vs H Q E h => ?_) (fun cdv A outer s H vs Q E hr h => ?_)
  · obtain ⟨L, W, p, qs, ws, rfl, _⟩ := h
    rfl
  · obtain ⟨L, W, p, qs, ws, rfl, hA, hF, hW, hc, h1, hfr, k⟩ := h
    refine ⟨_, (pss_cons (ps_set (i := 2) sc_read_rack.nd rfl (Or.inl rfl) (pe_call (ok_new_name_fault T) (hr.mono (by decide)) (by rfl) T.new_name_fault.g T.new_name_fault.F.kp T.new_name_fault.b .nil pass0 (pa_cons (pv 0) (pa_cons (pv 1) (pa_cons pe_str (pa_cons (pe_fld (pv 0) rfl) (pa_cons pe_int pa_nil)))))))
    (pss_cons (ps_if (pt_cmpR op_gt (pv 2) pe_int (nomark _))
    (pss_one (ps_ret (pv 2))) pss_nil)
    (pss_cons (ps_set (i := 3) sc_read_rack.nd rfl (Or.inl rfl) (pe_call (ok_find_mover T) (hr.mono (by decide)) (by rfl) T.find_mover.g T.find_mover.F.kp T.find_mover.b .nil pass0 (pa_cons (pv 0) (pa_cons (pe_ix ix_list (pv 1) pe_int (fun _ _ => rfl)) pa_nil))))
    (pss_cons (ps_set (i := 4) sc_read_rack.nd rfl (Or.inl rfl) (pe_call (ok_find T) (hr.mono (by decide)) (by rfl) T.find.g T.find.F.kp T.find.b .nil pass0 (pa_cons (pe_fld (pv 0) rfl) (pa_cons (pe_ix ix_list (pv 1) pe_int (fun _ _ => rfl)) pa_nil))))
    (pss_cons (ps_if (PW.pt (pw_or (pt_cmpR op_isN (pv 3) pe_non (nomark _)) (pw_or1 (pt_cmpR op_isN (pv 4) pe_non (nomark _)))))
    (pss_one (ps_ret pe_int)) pss_nil)
    (pss_cons (ps_expr (pe_bm PySem.F.plainAttrs_list PySem.F.slot_list_append PySem.F.type_list_append mt_append (pe_fld (pv 0) rfl) (pa_cons (pe_make T.Striker.mkC (ok_Striker_init T) (hr.mono (by decide)) (by rfl) T.Striker.g T.Striker.b .nil pass0 (pa_cons (pe_ix ix_list (pv 1) pe_int (fun _ _ => rfl)) (pa_cons (pv 3) (pa_cons (pe_lst pa_nil) (pa_cons (pv 4) pa_nil))))) pa_nil)))
    (pss_one (ps_ret pe_int)))))))), ?_⟩
    have hs : ("nnn" : Str).cps.toList = [110, 110, 110] := by decide +kernel
    have pl : L.sk.length = W.strikers.length := hA.lens.sk
    unfold rRack at k
    refine q_asg (v := .int (newName W ws [110, 110, 110] W.strikers.length 6 : Nat)) (ev_call (ea_cons (ev_var rfl) (ea_cons (ev_var rfl) (ea_cons ev_c (ea_cons (ev_fld (ev_var rfl) (T.fd_works_strikers hA.w)) (ea_cons ev_c ea_nil))))) (sv_of fun H2 e2 => ⟨L, W, p, qs, ws, "nnn", L.lk, L.sk, 6, rfl, (hA.ex e2).names, hW.ex e2, by decide +kernel, by rw [hs]; decide, e2 _ _ hA.lists.lk, by rw [hs, pl]⟩)) fun H2 e2 => ?_
    refine q_when (b := decide (0 < newName W ws [110, 110, 110] W.strikers.length 6)) (et_is (et_test (ev_i (ev_var rfl) ev_c)) (dlt (a := 0))) (fun hb H3 e3 => ?_) (fun hb H3 e3 => ?_)
    · have h0 := of_decide_eq_true hb
      rw [withName_pos h0] at k
      exact s_ret (ev_var rfl) fun H4 e4 => k H4 ((e2.trans e3).trans e4)
    have h0 : newName W ws [110, 110, 110] W.strikers.length 6 = 0 := by
      have := of_decide_eq_false hb
      omega
    rw [withName_zero h0] at k
    have hf := form_good h0
    have e23 := e2.trans e3
    have hA3 := hA.ex e23
    have hl : ws.length = 4 := form_len hf
    obtain ⟨a1, ha1, g1, ne1, le1⟩ := hW.get (i := 1) (by omega)
    obtain ⟨a2, ha2, g2, ne2, le2⟩ := hW.get (i := 2) (by omega)
    obtain ⟨a3, ha3, g3, ne3, le3⟩ := hW.get (i := 3) (by omega)
    refine q_asg (v := goV L (goes W (wd ws 2))) (ev_call (ea_cons (ev_var rfl) (ea_cons (ev_ixL (j := 2) (ev_var rfl) ev_c (SqL.of (e23 _ _ hW.l)) rfl (refV_get ha2)) ea_nil)) (sv_of fun H4 e4 => ⟨L, W, a2, wd ws 2, rfl, (hA3.ex e4).names, (e23.trans e4) _ _ g2, rfl⟩)) fun H4 e4 => ?_
    have e24 := e23.trans e4
    have hA4 := hA.ex e24
    refine q_asg (v := optV L.ha (Mu07.hand W (wd ws 3))) (ev_call (ea_cons (ev_fld (ev_var rfl) (T.fd_works_hands hA4.w)) (ea_cons (ev_ixL (j := 3) (ev_var rfl) ev_c (SqL.of (e24 _ _ hW.l)) rfl (refV_get ha3)) ea_nil)) (sv_of fun H5 e5 => ⟨L.lh, a3, L.ha, W.hands.map fun (x : Mu07.Hand) => x.name, wd ws 3, rfl, e5 _ _ hA4.lists.lh, (hA4.ex e5).names.lh.2.2, (e24.trans e5) _ _ g3, rfl⟩)) fun H5 e5 => ?_
    refine q_when (b := (goes W (wd ws 2)).isNone || (Mu07.hand W (wd ws 3)).isNone) (et_or (et_test (ev_is (ev_op (ev_var rfl) ev_c rv_isN) (congrArg V.bl isNone_go))) fun _ => et_test (ev_is (ev_op (ev_var rfl) ev_c rv_isN) (congrArg V.bl isNone_opt))) (fun hb2 H6 e6 => ?_) (fun hb2 H6 e6 => ?_)
    · have e26 := (e24.trans e5).trans e6
      have k : ∀ H', Ex H H' → Q (.int ((3 : Nat) : Int)) H' := by
        refine fun H' x => RdK.err (k := 3) k ?_ x
        cases h1 : goes W (wd ws 2) with
        | none => rfl
        | some g =>
          cases h2 : Mu07.hand W (wd ws 3) with
          | none => rfl
          | some i =>
            rw [h1, h2] at hb2
            cases hb2
      exact s_ret ev_c fun H7 e7 => k H7 (e26.trans e7)
    obtain ⟨g, hg⟩ : ∃ g, goes W (wd ws 2) = some g := by
      cases h : goes W (wd ws 2) with
      | none => rw [h] at hb2; exact absurd hb2 (by simp)
      | some g => exact ⟨g, rfl⟩
    obtain ⟨i, hi⟩ : ∃ i, Mu07.hand W (wd ws 3) = some i := by
      cases h : Mu07.hand W (wd ws 3) with
      | none => rw [h] at hb2; exact absurd hb2 (by simp)
      | some g => exact ⟨g, rfl⟩
    rw [hg, hi] at k ⊢
    obtain ⟨q, hq1, hq2⟩ := hA.goV_some (g := g) (goes_ok hg)
    rw [hq1]
    obtain ⟨hp, hp1, hp2⟩ := optV_some (ps := L.ha) (i := i) (by have := hand_lt hi; rw [show L.ha.length = W.hands.length from hA.lens.ha]; exact this)
    rw [hp1]
    have e26 := (e24.trans e5).trans e6
    have hA6 := hA.ex e26
    refine q_appIx hA6.lists.lk (ev_fld (ev_var rfl) (T.fd_works_strikers hA6.w)) (eix_make (ev_ixL (j := 1) (ev_var rfl) ev_c (SqL.of (e26 _ _ hW.l)) rfl (refV_get ha1)) (ev_var rfl) (el_lst ea_nil (Nat.zero_le _)) (ev_var rfl) (fun ns => strikerF a1 q ns (.ref hp) 0) (fun ns H7 => ⟨a1, q, ns, .ref hp, rfl, rfl⟩)) (by rw [refV_len, pl]; have := hF.nk; omega) fun ns np dx H7 hnp e7 h7 => ?_
    have e27 := e26.trans e7
    have A7 := (hA.ex e27).addStriker (hA6.noSk hnp) (p := np) (dx := dx) (na := a1) (ns := ns) (hd := .ref hp) (x := ⟨wd ws 1, g, [], some i⟩) h7 hq2 ⟨⟨ne1, hfr.2 _ (List.mem_of_getElem? ha1)⟩, e27 _ _ g1⟩ (fun z => by cases z) (fun i' hi' => by cases hi'; exact ⟨hp, rfl, hp2⟩)
    exact s_ret ev_c fun Hx ex => k { L with sk := L.sk ++ [np] } Hx ⟨rfl, rfl, rfl, rfl, rfl, rfl, rfl, rfl⟩ (A7.ex ex) (((KeptL.of e27).trans (KeptL.upd (by simp [ownL]))).trans (KeptL.of ex))
theorem ok_read_count : FnOk P w K mg base CX0 5 T.read_count.f T.read_count.fd ["works", "words"] (spR T rCount) := by
  refine T.read_count.F.ok sc_read_count (fun vs H Q E h => ?_) (fun cdv A outer s H vs Q E hr h => ?_)
  · obtain ⟨L, W, p, qs, ws, rfl, _⟩ := h
    rfl
  · obtain ⟨L, W, p, qs, ws, rfl, hA, hF, hW, hc, h1, hfr, k⟩ := h
    refine ⟨_, (pss_cons (ps_set (i := 2) sc_read_count.nd rfl (Or.inl rfl) (pe_op op_add_str pe_str (pe_op op_mulS pe_str (pe_callB (call_max2 rfl) (by rfl) T.b_max (by decide +kernel) (pa_cons pe_int (pa_cons (pe_op op_sub (pe_callB call_len_seq (by rfl) T.b_len (by decide +kernel) (pa_cons (pv 1) pa_nil)) pe_int) pa_nil))))))
    (pss_cons (ps_set (i := 3) sc_read_count.nd rfl (Or.inl rfl) (pe_call (ok_new_name_fault T) (hr.mono (by decide)) (by rfl) T.new_name_fault.g T.new_name_fault.F.kp T.new_name_fault.b .nil pass0 (pa_cons (pv 0) (pa_cons (pv 1) (pa_cons (pv 2) (pa_cons (pe_fld (pv 0) rfl) (pa_cons pe_int pa_nil)))))))
    (pss_cons (ps_if (pt_cmpR op_gt (pv 3) pe_int (nomark _))
    (pss_one (ps_ret (pv 3))) pss_nil)
    (pss_cons (ps_set (i := 4) sc_read_count.nd rfl (Or.inl rfl) (pe_call (ok_find_mover T) (hr.mono (by decide)) (by rfl) T.find_mover.g T.find_mover.F.kp T.find_mover.b .nil pass0 (pa_cons (pv 0) (pa_cons (pe_ix ix_list (pv 1) pe_int (fun _ _ => rfl)) pa_nil))))
    (pss_cons (ps_if (pt_cmpR op_isN (pv 4) pe_non (nomark _))
    (pss_one (ps_ret pe_int)) pss_nil)
    (pss_cons (ps_setLc (i := 5) (own := [("word", 6)]) (g := gName 6) (tt := tYes) rfl sc_read_count.nd rfl rfl (sw_true rfl rfl rfl (by decide +kernel)) (pi_list (pe_slice sl_list (pv 1) (po_some pe_int) po_none)) (blkOk_by (N := ["works", "words", "form", "fault", "mover", "numbers", "word"]) (sc := defScope tx_read_count) (by decide +kernel)) (fun _ _ _ _ _ => pg_name (i := 6) sc_read_count.nd rfl (Or.inl rfl)) (fun _ _ _ _ _ => pts_nil) (fun _ _ _ _ _ => (pe_call (ok_number_of T) (hr.mono (by decide)) (by rfl) T.number_of.g T.number_of.F.kp T.number_of.b .nil pass0 (pa_cons (pv 6) pa_nil))))
    (pss_cons (ps_if (PW.pt (pw_or (pt_cmpR op_gt (pe_callB call_len_seq (by rfl) T.b_len (by decide +kernel) (pa_cons (pv 5) pa_nil)) pe_int (nomark _)) (pw_or1 (pt_cmpR op_gt (pe_callB (cr_max rfl) (by rfl) T.b_max (by decide +kernel) (pa_cons (pv 5) pa_nil)) pe_int (nomark _)))))
    (pss_one (ps_ret pe_int)) pss_nil)
    (pss_cons (ps_expr (pe_bm PySem.F.plainAttrs_list PySem.F.slot_list_append PySem.F.type_list_append mt_append (pe_fld (pv 0) rfl) (pa_cons (pe_make T.Striker.mkC (ok_Striker_init T) (hr.mono (by decide)) (by rfl) T.Striker.g T.Striker.b .nil pass0 (pa_cons (pe_ix ix_list (pv 1) pe_int (fun _ _ => rfl)) (pa_cons (pv 4) (pa_cons (pv 5) (pa_cons pe_non pa_nil))))) pa_nil)))
    (pss_one (ps_ret pe_int)))))))))), ?_⟩
    have pl : L.sk.length = W.strikers.length := hA.lens.sk
    unfold rCount at k
    let mx : Nat := max 1 (ws.length - 3)
    have hmx : (if (ws.length : Int) - 3 > 1 then (ws.length : Int) - 3 else 1) = ((mx : Nat) : Int) := by
      show _ = ((max 1 (ws.length - 3) : Nat) : Int)
      split <;> omega
    have mx1 : 1 ≤ mx := Nat.le_max_left _ _
    have mx2 : mx ≤ 4001 := by
      have := hW.few
      show max 1 (ws.length - 3) ≤ 4001
      omega
    let fm : Str := ("nn" : Str) ++ Txt.mul "9" (mx : Int)
    have hfm : fm.cps.toList = countForm ws := by
      show (("nn" : Str).cps ++ (Txt.mul "9" (mx : Int)).cps).toList = _
      rw [Array.toList_append, nines_are mx1]
      have : ("nn" : Str).cps.toList = [110, 110] := by decide +kernel
      rw [this]
      rfl
    have nl : (Txt.mul "9" (mx : Int)).length = mx := by
      show (Txt.mul "9" (mx : Int)).cps.size = mx
      rw [← Array.length_toList, nines_are mx1, List.length_replicate]
    have cl : (countForm ws).length = mx + 2 := by
      show ([110, 110] ++ List.replicate mx 57).length = mx + 2
      rw [List.length_append, List.length_replicate]
      show 2 + mx = mx + 2
      omega
    have fsz : fm.cps.size ≤ 5000 := by
      rw [← Array.length_toList, hfm, cl]
      omega
    refine q_asg (v := .str fm) (ev_op ev_c (ev_op ev_c (ev_is (ev_max2 ev_c (ev_i (ev_len (ev_var rfl) (SqL.of hW.l)) ev_c)) (congrArg V.int (by rw [refV_len, hW.len]; exact hmx))) (rv_mulS (nines_ok mx1 (by omega)))) (rv_addS (by
      rw [nl]
      have : ("nn" : Str).length = 2 := rfl
      rw [this]
      have : sizeLine = 16777216 := rfl
      omega))) fun H1 e1 => ?_
    have hA1 := hA.ex e1
    refine q_asg (v := .int (newName W ws (countForm ws) W.strikers.length 6 : Nat)) (ev_call (ea_cons (ev_var rfl) (ea_cons (ev_var rfl) (ea_cons (ev_var rfl) (ea_cons (ev_fld (ev_var rfl) (T.fd_works_strikers hA1.w)) (ea_cons ev_c ea_nil))))) (sv_of fun H2 e2 => ⟨L, W, p, qs, ws, fm, L.lk, L.sk, 6, rfl, (hA1.ex e2).names, hW.ex (e1.trans e2), fsz, by rw [hfm, cl]; omega, e2 _ _ hA1.lists.lk, by rw [hfm, pl]⟩)) fun H2 e2' => ?_
    have e2 := e1.trans e2'
    refine q_when (b := decide (0 < newName W ws (countForm ws) W.strikers.length 6)) (et_is (et_test (ev_i (ev_var rfl) ev_c)) (dlt (a := 0))) (fun hb H3 e3 => ?_) (fun hb H3 e3 => ?_)
    · have h0 := of_decide_eq_true hb
      rw [withName_pos h0] at k
      exact s_ret (ev_var rfl) fun H4 e4 => k H4 ((e2.trans e3).trans e4)
    have h0 : newName W ws (countForm ws) W.strikers.length 6 = 0 := by
      have := of_decide_eq_false hb
      omega
    rw [withName_zero h0] at k
    have hf := form_good h0
    have e23 := e2.trans e3
    have hA3 := hA.ex e23
    have hl : ws.length = mx + 3 := by
      have := form_len hf
      rw [cl] at this
      exact this
    have hl4 : 4 ≤ ws.length := by omega
    have hlm : ws.length = 3 + mx := by omega
    obtain ⟨a1, ha1, g1, ne1, le1⟩ := hW.get (i := 1) (by omega)
    obtain ⟨a2, ha2, g2, ne2, le2⟩ := hW.get (i := 2) (by omega)
    refine q_asg (v := goV L (goes W (wd ws 2))) (ev_call (ea_cons (ev_var rfl) (ea_cons (ev_ixL (j := 2) (ev_var rfl) ev_c (SqL.of (e23 _ _ hW.l)) rfl (refV_get ha2)) ea_nil)) (sv_of fun H4 e4 => ⟨L, W, a2, wd ws 2, rfl, (hA3.ex e4).names, (e23.trans e4) _ _ g2, rfl⟩)) fun H4 e4 => ?_
    refine q_when (b := (goes W (wd ws 2)).isNone) (et_test (ev_is (ev_op (ev_var rfl) ev_c rv_isN) (congrArg V.bl isNone_go))) (fun hb2 H5 e5 => ?_) (fun hb2 H5 e5 => ?_)
    · have hi : goes W (wd ws 2) = none := by simpa using hb2
      rw [hi] at k
      exact s_ret ev_c fun H6 e6 => k H6 (((e23.trans e4).trans e5).trans e6)
    obtain ⟨g, hg⟩ : ∃ g, goes W (wd ws 2) = some g := by
      cases h : goes W (wd ws 2) with
      | none => rw [h] at hb2; exact absurd hb2 (by decide)
      | some g => exact ⟨g, rfl⟩
    rw [hg] at k ⊢
    obtain ⟨q, hq1, hq2⟩ := hA.goV_some (g := g) (goes_ok hg)
    rw [hq1]
    have e25 := (e23.trans e4).trans e5
    have hlen3 : (refV (qs.drop 3)).length = mx := by
      rw [refV_len, List.length_drop, hW.len]
      omega
    let nums : List Nat := (ws.drop 3).map numberOf
    have nlen : nums.length = mx := by
      show ((ws.drop 3).map numberOf).length = mx
      rw [List.length_map, List.length_drop]
      omega
    have hnums : (List.range mx).map (fun i => V.int (numberOf (wd ws (3 + i)) : Nat)) = byV nums := by
      have hn : nums = (List.range mx).map fun i => numberOf (wd ws (3 + i)) := by
        refine List.ext_getElem (by rw [nlen, List.length_map, List.length_range]) fun i a b => ?_
        rw [List.getElem_map, List.getElem_map, List.getElem_range, List.getElem_drop]
        have : wd ws (3 + i) = ws[3 + i]'(by rw [List.length_map, List.length_range] at b; omega) := getD_get _
        rw [this]
      rw [hn]
      unfold byV
      rw [List.map_map]
      rfl
    have hd57 : ∀ i, i < mx → (countForm ws).getD (i + 2) 0 = 57 := fun i hi => by
      show ([110, 110] ++ List.replicate mx 57).getD (i + 2) 0 = 57
      rw [List.getD_eq_getElem?_getD, List.getElem?_append_right (by simp)]
      have : i + 2 - [110, 110].length = i := rfl
      rw [this, List.getElem?_replicate, if_pos hi]
      rfl
    refine q_asgL (xs := byV nums) (by
      rw [← hnums, ← hlen3, ← given_all]
      refine el_lcNL (K := K) (fun _ => true) (fun i => .int (numberOf (wd ws (3 + i)) : Nat)) (by
        rw [← refV_drop, ← cut_from]
        exact el_sl (ev_var rfl) (eo_some ev_c) eo_none (SqL.of (e25 _ _ hW.l))) (by rw [hlen3]; omega) (fun _ => rfl) (fun i x H6 e6 hi => et_yes) (fun i x H6 e6 hi _ => ?_)
      obtain ⟨b, hb0, rfl⟩ := refV_at hi
      rw [List.getElem?_drop] at hb0
      have hi3 : 3 + i < ws.length := by
        rw [← hW.len]
        exact lt_of_get hb0
      obtain ⟨b', hb1, hb2, hb3, hb4⟩ := hW.get hi3
      rw [hb0] at hb1
      cases hb1
      exact ev_call (ea_cons (ev_var rfl) ea_nil) (sv_of fun H7 e7 => ⟨b, wd ws (3 + i), rfl, ((e25.trans e6).trans e7) _ _ hb2, by
        have := form_num hf (i := i + 2) (by rw [cl]; omega) (hd57 i (by omega))
        have e : i + 2 + 1 = 3 + i := by omega
        rwa [e] at this, hb4, rfl⟩)) fun pn H6 npn e6' hpn => ?_
    have e26 := e25.trans e6'
    refine q_when (b := decide (24 < nums.length) || nums.any (fun (n : Nat) => decide (99 < n))) (et_or (et_is (et_test (ev_i (ev_len (ev_var rfl) (SqL.of hpn)) ev_c)) (by rw [byV_len]; exact dlt (a := 24))) fun _ => et_is (et_test (ev_i (ev_maxL (ev_var rfl) hpn (by omega)) ev_c)) ((dlt (a := 99)).trans (maxOf_any nums 99))) (fun hb7 H7 e7 => ?_) (fun hb7 H7 e7 => ?_)
    · have hc7 : 24 < (ws.drop 3).length ∨ ((ws.drop 3).map numberOf).any (fun (n : Nat) => decide (99 < n)) = true := by
        rcases Bool.or_eq_true_iff.mp hb7 with z | z
        · have := of_decide_eq_true z
          rw [List.length_map] at this
          exact Or.inl this
        · exact Or.inr z
      dsimp only at k
      rw [if_pos hc7] at k
      exact s_ret ev_c fun H8 e8 => k H8 ((e26.trans e7).trans e8)
    have hc7 : ¬ (24 < (ws.drop 3).length ∨ ((ws.drop 3).map numberOf).any (fun (n : Nat) => decide (99 < n)) = true) := fun z => by
      rw [Bool.or_eq_false_iff] at hb7
      rcases z with z | z
      · refine of_decide_eq_false hb7.1 ?_
        rw [List.length_map]
        exact z
      · rw [z] at hb7
        exact absurd hb7.2 (by decide)
    dsimp only at k
    rw [if_neg hc7] at k
    have e27 := e26.trans e7
    have hA7 := hA.ex e27
    refine q_appI hA7.lists.lk (ev_fld (ev_var rfl) (T.fd_works_strikers hA7.w)) (ei_make (ea_cons (ev_ixL (j := 1) (ev_var rfl) ev_c (SqL.of (e27 _ _ hW.l)) rfl (refV_get ha1)) (ea_cons (ev_var rfl) (ea_cons (ev_var rfl) (ea_cons ev_c ea_nil)))) (fun H8 e8 => ⟨a1, q, pn, .non, rfl, rfl⟩)) (by rw [refV_len, pl]; have := hF.nk; omega) fun np dx H8 hnp e8 h8 => ?_
    have e28 := e27.trans e8
    have nne : nums ≠ [] := fun z => by
      rw [z] at nlen
      have : mx = 0 := nlen.symm
      omega
    have A8 := (hA.ex e28).addStriker (hA7.noSk hnp) (p := np) (dx := dx) (na := a1) (ns := pn) (hd := .non) (x := ⟨wd ws 1, g, nums, none⟩) h8 hq2 ⟨⟨ne1, hfr.2 _ (List.mem_of_getElem? ha1)⟩, e28 _ _ g1⟩ (fun _ => ⟨rfl, ⟨nne, ne_td hfr.1 e25 npn⟩, (e7.trans e8) _ _ hpn⟩) (fun i' hi' => by cases hi')
    exact s_ret ev_c fun Hx ex => k { L with sk := L.sk ++ [np] } Hx ⟨rfl, rfl, rfl, rfl, rfl, rfl, rfl, rfl⟩ (A8.ex ex) (((KeptL.of e28).trans (KeptL.upd (by simp [ownL]))).trans (KeptL.of ex))
end
end Cw

/-! The walk through reading: meshes, a line. -/
namespace Cw
open PySem PySem.Spec PyProof.Rows L2 Evl
open Mu07 (State Goes Works Star Q frac whole Bytes numberOf indexOf kept there goes daysOf trueLeap ascii)
theorem carV_none {ar : List Addr} : carV ar none = .non := rfl
theorem wd_drop (ws : List Bytes) (k i : Nat) : wd (ws.drop k) i = wd ws (k + i) := by
  unfold wd
  rw [List.getD_eq_getElem?_getD, List.getD_eq_getElem?_getD, List.getElem?_drop]
def meshOn (W : Works) (i j : Nat) (ins : Bool) (r : List Bytes) : R :=
  if 0 < r.length then
    if r.length ≠ 2 ∨ wd r 0 ≠ ascii "on" ∨ isName (wd r 1) = false then .error 2 else match indexOf W.arbors (wd r 1) with
      | none => .error 3
      | some c => .ok { W with meshes := W.meshes ++ [⟨i, j, ins, some c⟩] }
  else .ok { W with meshes := W.meshes ++ [⟨i, j, ins, none⟩] }
theorem rMeshRest_on (W : Works) (rest : List Bytes) (i j : Nat) {ins : Bool} (h : (decide (0 < rest.length) && decide (wd rest 0 = ascii "inside")) = ins) : rMeshRest W rest i j = meshOn W i j ins (if ins = true then rest.drop 1 else rest) := by
  unfold rMeshRest
  rw [h]
  rfl
section
variable {P : Program} {w : World} {K : PySem.W.Frag} {mg : Str → Option Value} {base : Heap} (T : Txt K mg)
theorem signs_of {σ : L2.St} {H : Hp} {te : TE} {z : Str} {b : Bytes} (h : Ev te σ H (.str z)) (hz : z.cps.size ≤ 1000) (e : z.cps.toList = b) {E : XK} : EvL (tCall (spL pSigns) [] E (tCons te tNil)) σ H ((byZ b).map V.int) := by
  rw [← byV_z, ← e]
  exact el_call (ea_cons h ea_nil) (sl_of fun _ _ => ⟨z, rfl, hz, rfl⟩)
theorem ok_read_mesh : FnOk P w K mg base CX0 5 T.read_mesh.f T.read_mesh.fd ["works", "words"] (spR T rMesh) := by
  refine T.read_mesh.F.ok sc_read_mesh (fun vs H Q E h => ?_) (fun cdv A outer s H vs Q E hr h => ?_)
  · obtain ⟨L, W, p, qs, ws, rfl, _⟩ := h
    rfl
  · obtain ⟨L, W, p, qs, ws, rfl, hA, hF, hW, hc, h1, hfr, k⟩ := h
    refine ⟨_, (pss_cons (ps_if (pt_not (pt_val (pe_call (ok_form_holds T) (hr.mono (by decide)) (by rfl) T.form_holds.g T.form_holds.F.kp T.form_holds.b .nil pass0 (pa_cons (pe_slice sl_list (pv 1) po_none (po_some pe_int)) (pa_cons pe_str pa_nil)))))
    (pss_one (ps_ret pe_int)) pss_nil)
    (pss_cons (ps_if (pt_cmpR op_ge (pe_callB call_len_seq (by rfl) T.b_len (by decide +kernel) (pa_cons (pe_fld (pv 0) rfl) pa_nil)) pe_int (nomark _))
    (pss_one (ps_ret pe_int)) pss_nil)
    (pss_cons (ps_if (PW.pt (pw_or (pt_val (pe_call (ok_is_kept T) (hr.mono (by decide)) (by rfl) T.is_kept.g T.is_kept.F.kp T.is_kept.b .nil pass0 (pa_cons (pe_ix ix_list (pv 1) pe_int (fun _ _ => rfl)) pa_nil))) (pw_or1 (pt_val (pe_call (ok_is_kept T) (hr.mono (by decide)) (by rfl) T.is_kept.g T.is_kept.F.kp T.is_kept.b .nil pass0 (pa_cons (pe_ix ix_list (pv 1) pe_int (fun _ _ => rfl)) pa_nil))))))
    (pss_one (ps_ret pe_int)) pss_nil)
    (pss_cons (ps_set (i := 2) sc_read_mesh.nd rfl (Or.inl rfl) (pe_call (ok_find T) (hr.mono (by decide)) (by rfl) T.find.g T.find.F.kp T.find.b .nil pass0 (pa_cons (pe_fld (pv 0) rfl) (pa_cons (pe_ix ix_list (pv 1) pe_int (fun _ _ => rfl)) pa_nil))))
    (pss_cons (ps_set (i := 3) sc_read_mesh.nd rfl (Or.inl rfl) (pe_call (ok_find T) (hr.mono (by decide)) (by rfl) T.find.g T.find.F.kp T.find.b .nil pass0 (pa_cons (pe_fld (pv 0) rfl) (pa_cons (pe_ix ix_list (pv 1) pe_int (fun _ _ => rfl)) pa_nil))))
    (pss_cons (ps_if (PW.pt (pw_or (pt_cmpR op_isN (pv 2) pe_non (nomark _)) (pw_or1 (pt_cmpR op_isN (pv 3) pe_non (nomark _)))))
    (pss_one (ps_ret pe_int)) pss_nil)
    (pss_cons (ps_set (i := 4) sc_read_mesh.nd rfl (Or.inl rfl) (pe_slice sl_list (pv 1) (po_some pe_int) po_none))
    (pss_cons (ps_set (i := 5) sc_read_mesh.nd rfl (Or.inl rfl) (pe_and (pe_cmpR op_gt (pe_callB call_len_seq (by rfl) T.b_len (by decide +kernel) (pa_cons (pv 4) pa_nil)) pe_int (nomark _)) (pe_one (pe_cmpR (op_eqD hr.units) (pe_ix ix_list (pv 4) pe_int (fun _ _ => rfl)) (pe_call (ok_signs T) (hr.mono (by decide)) (by rfl) T.signs.g T.signs.F.kp T.signs.b .nil pass0 (pa_cons pe_str pa_nil)) (nomark _)))))
    (pss_cut (ps_if (pt_val (pv 5))
    (pss_one (ps_set (i := 4) sc_read_mesh.nd rfl (Or.inl rfl) (pe_slice sl_list (pv 4) (po_some pe_int) po_none))) pss_nil)
    (pss_cons (ps_set (i := 6) sc_read_mesh.nd rfl (Or.inl rfl) pe_non)
    (pss_cut (ps_if (pt_cmpR op_gt (pe_callB call_len_seq (by rfl) T.b_len (by decide +kernel) (pa_cons (pv 4) pa_nil)) pe_int (nomark _))
    (pss_cons (ps_if (PW.pt (pw_or (pt_cmpR op_ne (pe_callB call_len_seq (by rfl) T.b_len (by decide +kernel) (pa_cons (pv 4) pa_nil)) pe_int (nomark _)) (pw_or (pt_cmpR (op_neD hr.units) (pe_ix ix_list (pv 4) pe_int (fun _ _ => rfl)) (pe_call (ok_signs T) (hr.mono (by decide)) (by rfl) T.signs.g T.signs.F.kp T.signs.b .nil pass0 (pa_cons pe_str pa_nil)) (nomark _)) (pw_or1 (pt_not (pt_val (pe_call (ok_is_name T) (hr.mono (by decide)) (by rfl) T.is_name.g T.is_name.F.kp T.is_name.b .nil pass0 (pa_cons (pe_ix ix_list (pv 4) pe_int (fun _ _ => rfl)) pa_nil))))))))
    (pss_one (ps_ret pe_int)) pss_nil)
    (pss_cons (ps_set (i := 6) sc_read_mesh.nd rfl (Or.inl rfl) (pe_call (ok_find T) (hr.mono (by decide)) (by rfl) T.find.g T.find.F.kp T.find.b .nil pass0 (pa_cons (pe_fld (pv 0) rfl) (pa_cons (pe_ix ix_list (pv 4) pe_int (fun _ _ => rfl)) pa_nil))))
    (pss_one (ps_if (pt_cmpR op_isN (pv 6) pe_non (nomark _))
    (pss_one (ps_ret pe_int)) pss_nil)))) pss_nil)
    (pss_cons (ps_expr (pe_bm PySem.F.plainAttrs_list PySem.F.slot_list_append PySem.F.type_list_append mt_append (pe_fld (pv 0) rfl) (pa_cons (pe_make T.Mesh.mkC (ok_Mesh_init T) (hr.mono (by decide)) (by rfl) T.Mesh.g T.Mesh.b .nil pass0 (pa_cons (pv 2) (pa_cons (pv 3) (pa_cons (pv 5) (pa_cons (pv 6) pa_nil))))) pa_nil)))
    (pss_one (ps_ret pe_int)))))))))))))), ?_⟩
    unfold rMesh at k
    have hs : ("nn" : Str).cps.toList = [110, 110] := by decide +kernel
    refine q_when (b := !formOk (ws.take 3) [110, 110]) (et_not (et_B (ev_callL (xs := refV (qs.take 3)) (by
      rw [← refV_take, ← cut_to]
      exact el_sl (ev_var rfl) eo_none (eo_some ev_c) (SqL.of hW.l)) (fun H1 e1 => ea_cons ev_c ea_nil) fun p3 H1 e1 hp3 => sv_of fun H2 e2 => ⟨p3, qs.take 3, ws.take 3, "nn", rfl, (hW.ex (e1.trans e2)).take 3 (e2 _ _ hp3), by decide +kernel, by rw [hs]⟩))) (fun hb H2 e2 => ?_) (fun hb H2 e2 => ?_)
    · rw [if_pos hb] at k
      exact s_ret ev_c fun H3 e3 => k H3 (e2.trans e3)
    rw [if_neg (by rw [hb]; decide)] at k
    have hf : formOk (ws.take 3) [110, 110] = true := by simpa using hb
    have hl : 3 ≤ ws.length := by
      have := form_len hf
      rw [List.length_take] at this
      have e : [110, 110].length = 2 := rfl
      rw [e] at this
      omega
    obtain ⟨a1, ha1, g1, ne1, le1⟩ := hW.get (i := 1) (by omega)
    obtain ⟨a2, ha2, g2, ne2, le2⟩ := hW.get (i := 2) (by omega)
    have hA2 := hA.ex e2
    have ml : L.me.length = W.meshes.length := hA.lens.me
    refine q_when (b := decide (24 ≤ W.meshes.length)) (et_is (et_test (ev_i (ev_len (ev_fld (ev_var rfl) (T.fd_works_meshes hA2.w)) (SqL.of hA2.lists.lm)) ev_c)) (by rw [refV_len, ml]; exact dle (a := 24))) (fun hb3 H3 e3 => ?_) (fun hb3 H3 e3 => ?_)
    · rw [if_pos (of_decide_eq_true hb3)] at k
      exact s_ret ev_c fun H4 e4 => k H4 ((e2.trans e3).trans e4)
    rw [if_neg (of_decide_eq_false hb3)] at k
    have e23 := e2.trans e3
    refine q_when (b := kept.contains (wd ws 1) || kept.contains (wd ws 2)) (et_or (et_B (ev_call (ea_cons (ev_ixL (j := 1) (ev_var rfl) ev_c (SqL.of (e23 _ _ hW.l)) rfl (refV_get ha1)) ea_nil) (sv_of fun H4 e4 => ⟨a1, wd ws 1, rfl, (e23.trans e4) _ _ g1, rfl⟩))) fun _ => et_B (ev_call (ea_cons (ev_ixL (j := 2) (ev_var rfl) ev_c (SqL.of (e23 _ _ hW.l)) rfl (refV_get ha2)) ea_nil) (sv_of fun H4 e4 => ⟨a2, wd ws 2, rfl, (e23.trans e4) _ _ g2, rfl⟩))) (fun hb4 H4 e4 => ?_) (fun hb4 H4 e4 => ?_)
    · rw [if_pos hb4] at k
      exact s_ret ev_c fun H5 e5 => k H5 ((e23.trans e4).trans e5)
    rw [if_neg (by rw [hb4]; decide)] at k
    have e24 := e23.trans e4
    have hA4 := hA.ex e24
    refine q_asg (v := optV L.wh (Mu07.wheel W (wd ws 1))) (ev_call (ea_cons (ev_fld (ev_var rfl) (T.fd_works_wheels hA4.w)) (ea_cons (ev_ixL (j := 1) (ev_var rfl) ev_c (SqL.of (e24 _ _ hW.l)) rfl (refV_get ha1)) ea_nil)) (sv_of fun H5 e5 => ⟨L.lw, a1, L.wh, W.wheels.map fun (x : Mu07.Wheel) => x.name, wd ws 1, rfl, e5 _ _ hA4.lists.lw, (hA4.ex e5).names.lw.2.2, (e24.trans e5) _ _ g1, rfl⟩)) fun H5 e5' => ?_
    have e5 := e24.trans e5'
    have hA5 := hA.ex e5
    refine q_asg (v := optV L.wh (Mu07.wheel W (wd ws 2))) (ev_call (ea_cons (ev_fld (ev_var rfl) (T.fd_works_wheels hA5.w)) (ea_cons (ev_ixL (j := 2) (ev_var rfl) ev_c (SqL.of (e5 _ _ hW.l)) rfl (refV_get ha2)) ea_nil)) (sv_of fun H6 e6 => ⟨L.lw, a2, L.wh, W.wheels.map fun (x : Mu07.Wheel) => x.name, wd ws 2, rfl, e6 _ _ hA5.lists.lw, (hA5.ex e6).names.lw.2.2, (e5.trans e6) _ _ g2, rfl⟩)) fun H6 e6' => ?_
    have e6 := e5.trans e6'
    refine q_when (b := (Mu07.wheel W (wd ws 1)).isNone || (Mu07.wheel W (wd ws 2)).isNone) (et_or (et_test (ev_is (ev_op (ev_var rfl) ev_c rv_isN) (congrArg V.bl isNone_opt))) fun _ => et_test (ev_is (ev_op (ev_var rfl) ev_c rv_isN) (congrArg V.bl isNone_opt))) (fun hb7 H7 e7' => ?_) (fun hb7 H7 e7' => ?_)
    · have k : ∀ H', Ex H H' → Q (.int ((3 : Nat) : Int)) H' := by
        refine fun H' x => RdK.err (k := 3) k ?_ x
        cases h1 : Mu07.wheel W (wd ws 1) with
        | none => rfl
        | some g =>
          cases h2 : Mu07.wheel W (wd ws 2) with
          | none => rfl
          | some i =>
            rw [h1, h2] at hb7
            cases hb7
      exact s_ret ev_c fun H8 e8 => k H8 ((e6.trans e7').trans e8)
    obtain ⟨i, hi⟩ : ∃ i, Mu07.wheel W (wd ws 1) = some i := by
      cases h : Mu07.wheel W (wd ws 1) with
      | none => rw [h] at hb7; exact absurd hb7 (by simp)
      | some g => exact ⟨g, rfl⟩
    obtain ⟨j, hj⟩ : ∃ j, Mu07.wheel W (wd ws 2) = some j := by
      cases h : Mu07.wheel W (wd ws 2) with
      | none => rw [h] at hb7; exact absurd hb7 (by simp)
      | some g => exact ⟨g, rfl⟩
    rw [hi, hj] at k ⊢
    have wl : L.wh.length = W.wheels.length := hA.lens.wh
    obtain ⟨f, hf1, hf2⟩ := optV_some (ps := L.wh) (i := i) (by rw [wl]; exact wheel_lt hi)
    obtain ⟨g, hg1, hg2⟩ := optV_some (ps := L.wh) (i := j) (by rw [wl]; exact wheel_lt hj)
    rw [hf1, hg1]
    have e7 := e6.trans e7'
    have k : RdK T L H Q (rMeshRest W (ws.drop 3) i j) := k
    refine q_asgL (xs := refV (qs.drop 3)) (by
      rw [← refV_drop, ← cut_from]
      exact el_sl (ev_var rfl) (eo_some ev_c) eo_none (SqL.of (e7 _ _ hW.l))) fun pr H8 npr e8' hpr => ?_
    have e8 := e7.trans e8'
    have hR := (hW.ex e8).drop 3 hpr
    generalize ws.drop 3 = rest at *
    generalize qs.drop 3 = qr at *
    obtain ⟨ins, hins⟩ : ∃ ins, (decide (0 < rest.length) && decide (wd rest 0 = ascii "inside")) = ins := ⟨_, rfl⟩
    rw [rMeshRest_on W rest i j hins] at k
    have hd : ∀ {r : List Bytes} {qr : List Addr} {pr : Addr} {H : Hp}, WordsAt H pr qr r → ∀ i, i < r.length → ∃ a, qr[i]? = some a ∧ H a = some (.lst ((byZ (wd r i)).map V.int)) ∧ wd r i ≠ [] ∧ (wd r i).length ≤ 4000 := fun h i hi => by
      obtain ⟨a, b1, b2, b3, b4⟩ := h.get hi
      exact ⟨a, b1, by rw [← byV_z]; exact b2, b3, b4⟩
    refine q_asg (v := .bl ins) (ev_is (ev_andV (a := decide (0 < rest.length)) (ev_is (ev_i (ev_len (ev_var rfl) (SqL.of hR.l)) ev_c) (congrArg V.bl (by rw [refV_len, hR.len]; exact dlt (a := 0)))) fun h0 => (by
      obtain ⟨a, b1, b2, b3, b4⟩ := hd hR 0 (of_decide_eq_true h0)
      exact ev_is (ev_eqLN (a := byZ (wd rest 0)) (b := byZ (ascii "inside")) (ev_ixL (j := 0) (ev_var rfl) ev_c (SqL.of hR.l) rfl (refV_get b1)) (signs_of ev_c (by decide +kernel) (by decide +kernel)) (SqL.of b2)) (congrArg V.bl ((byZ_dec _ _).trans (by
        by_cases h : wd rest 0 = ascii "inside"
        · rw [decide_eq_true h, h]
          exact beq_self_eq_true _
        · rw [decide_eq_false h]
          simpa using h)) ))) (congrArg V.bl hins)) fun H9 e9' => ?_
    have e9 := e8.trans e9'
    have hR9 := hR.ex e9'
    -- behind 'inside'
    refine q_cut (M := fun σ' H' => ∃ pr qr, σ' = [some (.ref L.a), some (.ref p), some (.ref f), some (.ref g), some (.ref pr), some (.bl ins), none] ∧ Ex H H' ∧ WordsAt H' pr qr (if ins = true then rest.drop 1 else rest)) ?_ fun σ' H10 hM => ?_
    · refine s_when (et_B (ev_var rfl)) (fun hb H10 e10 => ?_) (fun hb H10 e10 => ?_)
      · rw [if_pos hb]
        refine s_asgL (xs := refV (qr.drop 1)) (by
          rw [← refV_drop, ← cut_from]
          exact el_sl (ev_var rfl) (eo_some ev_c) eo_none (SqL.of (e10 _ _ hR9.l))) fun pr2 H11 npr2 e11 hpr2 => ?_
        exact ⟨pr2, qr.drop 1, rfl, (e9.trans e10).trans e11, (hR9.ex (e10.trans e11)).drop 1 hpr2⟩
      · rw [if_neg (by rw [hb]; decide)]
        exact ⟨pr, qr, rfl, e9.trans e10, hR9.ex e10⟩
    obtain ⟨pr2, qr2, rfl, e10, hR10⟩ := hM
    generalize (if ins = true then rest.drop 1 else rest) = r at *
    refine q_asg ev_c fun H11 e11' => ?_
    have e11 := e10.trans e11'
    have hR11 := hR10.ex e11'
    -- what carries it
    refine q_cut (M := fun σ' H' => ∃ on : Option Nat, σ' = [some (.ref L.a), some (.ref p), some (.ref f), some (.ref g), some (.ref pr2), some (.bl ins), some (carV L.ar on)] ∧ Ex H H' ∧ meshOn W i j ins r = .ok { W with meshes := W.meshes ++ [⟨i, j, ins, on⟩] }) ?_ fun σ' H12 hM => ?_
    · refine s_when (b := decide (0 < r.length)) (et_is (et_test (ev_i (ev_len (ev_var rfl) (SqL.of hR11.l)) ev_c)) (by rw [refV_len, hR11.len]; exact dlt (a := 0))) (fun hb H12 e12' => ?_) (fun hb H12 e12' => ?_)
      · unfold meshOn at k ⊢
        rw [if_pos (of_decide_eq_true hb)] at k ⊢
        have e12 := e11.trans e12'
        have hR12 := hR11.ex e12'
        refine q_when (b := !decide (r.length = 2) || (!decide (wd r 0 = ascii "on") || !isName (wd r 1))) (et_or (et_is (et_test (ev_neI (ev_len (ev_var rfl) (SqL.of hR12.l)) ev_c)) (by
            rw [refV_len, hR12.len]
            by_cases h : r.length = 2
            · rw [h]
              rfl
            · rw [decide_eq_false h]
              have : ¬ ((r.length : Nat) : Int) = 2 := by omega
              have : (((r.length : Nat) : Int) == 2) = false := by simpa using this
              rw [this])) fun h2 => et_or (by
            obtain ⟨a, b1, b2, b3, b4⟩ := hd hR12 0 (of_decide_eq_true hb)
            exact et_is (et_test (ev_neLN (a := byZ (wd r 0)) (b := byZ (ascii "on")) (ev_ixL (j := 0) (ev_var rfl) ev_c (SqL.of hR12.l) rfl (refV_get b1)) (signs_of ev_c (by decide +kernel) (by decide +kernel)) (SqL.of b2))) (congrArg not ((byZ_dec _ _).trans (by
              by_cases h : wd r 0 = ascii "on"
              · rw [decide_eq_true h, h]
                exact beq_self_eq_true _
              · rw [decide_eq_false h]
                simpa using h)))) fun _ => (by
            have h2 : r.length = 2 := by simpa using h2
            obtain ⟨a, b1, b2, b3, b4⟩ := hR12.get (i := 1) (by omega)
            exact et_not (et_B (ev_call (ea_cons (ev_ixL (j := 1) (ev_var rfl) ev_c (SqL.of hR12.l) rfl (refV_get b1)) ea_nil) (sv_of fun H13 e13 => ⟨a, wd r 1, rfl, e13 _ _ b2, b3, b4, rfl⟩))))) (fun hb2 H13 e13 => ?_) (fun hb2 H13 e13 => ?_)
        · have hc2 : r.length ≠ 2 ∨ wd r 0 ≠ ascii "on" ∨ isName (wd r 1) = false := by
            rcases Bool.or_eq_true_iff.mp hb2 with z | z
            · exact Or.inl (by simpa using z)
            · rcases Bool.or_eq_true_iff.mp z with z | z
              · exact Or.inr (Or.inl (by simpa using z))
              · exact Or.inr (Or.inr (by simpa using z))
          rw [if_pos hc2] at k
          exact s_ret ev_c fun H14 e14 => k H14 ((e12.trans e13).trans e14)
        · have hb3 : r.length = 2 ∧ wd r 0 = ascii "on" ∧ isName (wd r 1) = true := by
            rw [Bool.or_eq_false_iff, Bool.or_eq_false_iff] at hb2
            exact ⟨by simpa using hb2.1, by simpa using hb2.2.1, by simpa using hb2.2.2⟩
          have hc2 : ¬ (r.length ≠ 2 ∨ wd r 0 ≠ ascii "on" ∨ isName (wd r 1) = false) := fun z => by
            rcases z with z | z | z
            · exact z hb3.1
            · exact z hb3.2.1
            · rw [hb3.2.2] at z
              cases z
          rw [if_neg hc2] at k ⊢
          have e13' := e12.trans e13
          have hR13 := hR12.ex e13
          have hA13 := hA.ex e13'
          obtain ⟨a, b1, b2, b3, b4⟩ := hR13.get (i := 1) (by omega)
          refine q_asg (v := optV L.ar (indexOf W.arbors (wd r 1))) (ev_call (ea_cons (ev_fld (ev_var rfl) (T.fd_works_arbors hA13.w)) (ea_cons (ev_ixL (j := 1) (ev_var rfl) ev_c (SqL.of hR13.l) rfl (refV_get b1)) ea_nil)) (sv_of fun H14 e14 => ⟨L.la, a, L.ar, W.arbors, wd r 1, rfl, e14 _ _ hA13.lists.la, (hA13.ex e14).names.la.2.2, e14 _ _ b2, rfl⟩)) fun H14 e14 => ?_
          refine s_when (b := (indexOf W.arbors (wd r 1)).isNone) (et_test (ev_is (ev_op (ev_var rfl) ev_c rv_isN) (congrArg V.bl isNone_opt))) (fun hb4 H15 e15 => ?_) (fun hb4 H15 e15 => ?_)
          · have hi : indexOf W.arbors (wd r 1) = none := by simpa using hb4
            rw [hi] at k
            exact s_ret ev_c fun H16 e16 => k H16 (((e13'.trans e14).trans e15).trans e16)
          · cases hx : indexOf W.arbors (wd r 1) with
            | none => rw [hx] at hb4; cases hb4
            | some c => exact ⟨some c, rfl, (e13'.trans e14).trans e15, rfl⟩
      · refine ⟨none, rfl, e11.trans e12', ?_⟩
        unfold meshOn
        rw [if_neg (of_decide_eq_false hb)]
    obtain ⟨on, rfl, e12, hok⟩ := hM
    have hA12 := hA.ex e12
    refine q_appI hA12.lists.lm (ev_fld (ev_var rfl) (T.fd_works_meshes hA12.w)) (ei_make (ea_cons (ev_var rfl) (ea_cons (ev_var rfl) (ea_cons (ev_var rfl) (ea_cons (ev_var rfl) ea_nil)))) (fun _ _ => ⟨f, g, ins, carV L.ar on, rfl, rfl⟩)) (by rw [refV_len, ml]; have := hF.nm; omega) fun np dx H13 hnp e13' h13 => ?_
    have e13 := e12.trans e13'
    have A13 := (hA.ex e13).addMesh (p := np) (dx := dx) (x := ⟨i, j, ins, on⟩) h13 hf2 hg2
    exact s_ret ev_c fun Hx ex => k.okk hok { L with me := L.me ++ [np] } Hx ⟨rfl, rfl, rfl, rfl, rfl, rfl, rfl, rfl⟩ (A13.ex ex) (((KeptL.of e13).trans (KeptL.upd (by simp [ownL]))).trans (KeptL.of ex))
end
end Cw

/-! The walk through reading: a line's words, the text. -/
namespace Cw
open PySem PySem.Spec PyProof.Rows L2 Evl
open Mu07 (State Goes Works Star Q frac whole Bytes numberOf indexOf kept there goes daysOf trueLeap ascii)
theorem withName_err {W : Works} {ws : List Bytes} {f : List Nat} {n most : Nat} {k : R} {e : Nat} (h : withName W ws f n most k = .error e) : 0 < e ∨ k = .error e := by
  unfold withName at h
  split at h
  · injection h with h
    exact Or.inl (by omega)
  · exact Or.inr h
theorem meshOn_err {W : Works} {r : List Bytes} {i j e : Nat} {ins : Bool} (h : meshOn W i j ins r = .error e) : 0 < e := by
  unfold meshOn at h
  split at h
  · split at h
    · injection h with h; omega
    · split at h
      · injection h with h; omega
      · cases h
  · cases h
theorem rMeshRest_err {W : Works} {r : List Bytes} {i j e : Nat} (h : rMeshRest W r i j = .error e) : 0 < e := by
  rw [rMeshRest_on W r i j rfl] at h
  exact meshOn_err h
theorem rLine_pos {W : Works} {ws : List Bytes} {e : Nat} (h : rLine W ws = .error e) : 0 < e := by
  unfold rLine at h
  split at h
  · unfold rWords at h
    split at h
    · rcases withName_err h with h | h
      · exact h
      · cases h
    split at h
    · unfold rDrive at h
      split at h
      · injection h with h; omega
      · split at h
        · injection h with h; omega
        · split at h
          · injection h with h; omega
          · split at h
            · injection h with h; omega
            · cases h
    split at h
    · rcases withName_err h with h | h
      · exact h
      · split at h
        · injection h with h; omega
        · split at h
          · injection h with h; omega
          · cases h
    split at h
    · unfold rMesh at h
      split at h
      · injection h with h; omega
      · split at h
        · injection h with h; omega
        · split at h
          · injection h with h; omega
          · split at h
            · exact rMeshRest_err h
            · injection h with h; omega
    split at h
    · rcases withName_err h with h | h
      · exact h
      · split at h
        · injection h with h; omega
        · split at h
          · injection h with h; omega
          · cases h
    split at h
    · rcases withName_err h with h | h
      · exact h
      · split at h
        · injection h with h; omega
        · split at h
          · injection h with h; omega
          · cases h
    split at h
    · rcases withName_err h with h | h
      · exact h
      · split at h
        · injection h with h; omega
        · split at h
          · injection h with h; omega
          · cases h
    split at h
    · rcases withName_err h with h | h
      · exact h
      · split at h
        · cases h
        · injection h with h; omega
    split at h
    · rcases withName_err h with h | h
      · exact h
      · split at h
        · injection h with h; omega
        · dsimp only at h
          split at h
          · injection h with h; omega
          · split at h
            · injection h with h; omega
            · cases h
    injection h with h; omega
  · injection h with h; omega
theorem wordsB_ne (l : Bytes) : ∀ w ∈ wordsB l, w ≠ [] ∧ w.length ≤ l.length := fun w hw => by
  unfold wordsB at hw
  obtain ⟨h1, h2⟩ := List.mem_filter.mp hw
  have h2 := of_decide_eq_true h2
  exact ⟨fun z => by rw [z] at h2; exact absurd h2 (by decide), split_sz 32 l w h1⟩
theorem wordsB_len (l : Bytes) : (wordsB l).length ≤ l.length + 1 := Nat.le_trans (List.length_filter_le ..) (split_len 32 l)
section
variable {P : Program} {w : World} {K : PySem.W.Frag} {mg : Str → Option Value} {base : Heap} (T : Txt K mg)
def spRL : Sp := fun vs H Q _ => ∃ (L : Lay) (W : Works) (p : Addr) (qs : List Addr) (ws : List Bytes), vs = [.ref L.a, .ref p] ∧ WAt T H L (raw W) ∧ Wf W ∧ WordsAt H p qs ws ∧ 1 ≤ ws.length ∧ Far T H qs ∧ RdK T L H Q (rLine W ws)
variable {T}
theorem Far.ex {H H' : Hp} {qs : List Addr} (h : Far T H qs) (e : Ex H H') : Far T H' qs := ⟨ex_some h.1 e, h.2⟩
theorem s_retR {σ : L2.St} {H : Hp} {D : Ends} {ta : TA} {E : XK} {r : Works → List Bytes → R} {L : Lay} {W : Works} {p : Addr} {qs : List Addr} {ws : List Bytes} (h : EvA ta σ H [.ref L.a, .ref p]) (hA : WAt T H L (raw W)) (hF : Wf W) (hW : WordsAt H p qs ws) (hc : canBe ws = true) (h1 : 1 ≤ ws.length) (hfr : Far T H qs)
    {H0 : Hp} (e0 : Ex H0 H) (k : RdK T L H0 D.rt (r W ws)) : tRet (tCall (spR T r) [] E ta) D σ H := h H (Ex.refl H) _ fun H1 e1 => ⟨L, W, p, qs, ws, rfl, hA.ex e1, hF, hW.ex e1, hc, h1, hfr.ex e1, by
  cases hr : r W ws with
  | error n =>
    rw [hr] at k
    exact fun H' e => k H' ((e0.trans e1).trans e)
  | ok X =>
    rw [hr] at k
    exact fun L' H' s a kp => k L' H' s a ((KeptL.of (e0.trans e1)).trans kp)⟩
variable (T)
theorem ok_read_words : FnOk P w K mg base CX0 6 T.read_words.f T.read_words.fd ["works", "words"] (spRL T) := by
  refine T.read_words.F.ok sc_read_words (fun vs H Q E h => ?_) (fun cdv A outer s H vs Q E hr h => ?_)
  · obtain ⟨L, W, p, qs, ws, rfl, _⟩ := h
    rfl
  · obtain ⟨L, W, p, qs, ws, rfl, hA, hF, hW, h1, hfr, k⟩ := h
    refine ⟨_, (pss_cons (ps_if (pt_not (pt_val (pe_call (ok_words_can_be T) (hr.mono (by decide)) (by rfl) T.words_can_be.g T.words_can_be.F.kp T.words_can_be.b .nil pass0 (pa_cons (pv 1) pa_nil))))
    (pss_one (ps_ret pe_int)) pss_nil)
    (pss_cons (ps_set (i := 2) sc_read_words.nd rfl (Or.inl rfl) (pe_ix ix_list (pv 1) pe_int (fun _ _ => rfl)))
    (pss_cons (ps_if (pt_cmpR (op_eqD hr.units) (pv 2) (pe_call (ok_signs T) (hr.mono (by decide)) (by rfl) T.signs.g T.signs.F.kp T.signs.b .nil pass0 (pa_cons pe_str pa_nil)) (nomark _))
    (pss_one (ps_ret (pe_call (ok_read_arbor T) (hr.mono (by decide)) (by rfl) T.read_arbor.g T.read_arbor.F.kp T.read_arbor.b .nil pass0 (pa_cons (pv 0) (pa_cons (pv 1) pa_nil))))) pss_nil)
    (pss_cons (ps_if (pt_cmpR (op_eqD hr.units) (pv 2) (pe_call (ok_signs T) (hr.mono (by decide)) (by rfl) T.signs.g T.signs.F.kp T.signs.b .nil pass0 (pa_cons pe_str pa_nil)) (nomark _))
    (pss_one (ps_ret (pe_call (ok_read_drive T) (hr.mono (by decide)) (by rfl) T.read_drive.g T.read_drive.F.kp T.read_drive.b .nil pass0 (pa_cons (pv 0) (pa_cons (pv 1) pa_nil))))) pss_nil)
    (pss_cons (ps_if (pt_cmpR (op_eqD hr.units) (pv 2) (pe_call (ok_signs T) (hr.mono (by decide)) (by rfl) T.signs.g T.signs.F.kp T.signs.b .nil pass0 (pa_cons pe_str pa_nil)) (nomark _))
    (pss_one (ps_ret (pe_call (ok_read_wheel T) (hr.mono (by decide)) (by rfl) T.read_wheel.g T.read_wheel.F.kp T.read_wheel.b .nil pass0 (pa_cons (pv 0) (pa_cons (pv 1) pa_nil))))) pss_nil)
    (pss_cons (ps_if (pt_cmpR (op_eqD hr.units) (pv 2) (pe_call (ok_signs T) (hr.mono (by decide)) (by rfl) T.signs.g T.signs.F.kp T.signs.b .nil pass0 (pa_cons pe_str pa_nil)) (nomark _))
    (pss_one (ps_ret (pe_call (ok_read_mesh T) (hr.mono (by decide)) (by rfl) T.read_mesh.g T.read_mesh.F.kp T.read_mesh.b .nil pass0 (pa_cons (pv 0) (pa_cons (pv 1) pa_nil))))) pss_nil)
    (pss_cons (ps_if (pt_cmpR (op_eqD hr.units) (pv 2) (pe_call (ok_signs T) (hr.mono (by decide)) (by rfl) T.signs.g T.signs.F.kp T.signs.b .nil pass0 (pa_cons pe_str pa_nil)) (nomark _))
    (pss_one (ps_ret (pe_call (ok_read_jump T) (hr.mono (by decide)) (by rfl) T.read_jump.g T.read_jump.F.kp T.read_jump.b .nil pass0 (pa_cons (pv 0) (pa_cons (pv 1) pa_nil))))) pss_nil)
    (pss_cons (ps_if (pt_cmpR (op_eqD hr.units) (pv 2) (pe_call (ok_signs T) (hr.mono (by decide)) (by rfl) T.signs.g T.signs.F.kp T.signs.b .nil pass0 (pa_cons pe_str pa_nil)) (nomark _))
    (pss_one (ps_ret (pe_call (ok_read_hand T) (hr.mono (by decide)) (by rfl) T.read_hand.g T.read_hand.F.kp T.read_hand.b .nil pass0 (pa_cons (pv 0) (pa_cons (pv 1) pa_nil))))) pss_nil)
    (pss_cons (ps_if (pt_cmpR (op_eqD hr.units) (pv 2) (pe_call (ok_signs T) (hr.mono (by decide)) (by rfl) T.signs.g T.signs.F.kp T.signs.b .nil pass0 (pa_cons pe_str pa_nil)) (nomark _))
    (pss_one (ps_ret (pe_call (ok_read_count T) (hr.mono (by decide)) (by rfl) T.read_count.g T.read_count.F.kp T.read_count.b .nil pass0 (pa_cons (pv 0) (pa_cons (pv 1) pa_nil))))) pss_nil)
    (pss_cons (ps_if (pt_cmpR (op_eqD hr.units) (pv 2) (pe_call (ok_signs T) (hr.mono (by decide)) (by rfl) T.signs.g T.signs.F.kp T.signs.b .nil pass0 (pa_cons pe_str pa_nil)) (nomark _))
    (pss_one (ps_ret (pe_call (ok_read_rack T) (hr.mono (by decide)) (by rfl) T.read_rack.g T.read_rack.F.kp T.read_rack.b .nil pass0 (pa_cons (pv 0) (pa_cons (pv 1) pa_nil))))) pss_nil)
    (pss_cons (ps_if (pt_cmpR (op_eqD hr.units) (pv 2) (pe_call (ok_signs T) (hr.mono (by decide)) (by rfl) T.signs.g T.signs.F.kp T.signs.b .nil pass0 (pa_cons pe_str pa_nil)) (nomark _))
    (pss_one (ps_ret (pe_call (ok_read_calendar T) (hr.mono (by decide)) (by rfl) T.read_calendar.g T.read_calendar.F.kp T.read_calendar.b .nil pass0 (pa_cons (pv 0) (pa_cons (pv 1) pa_nil))))) pss_nil)
    (pss_one (ps_ret pe_int))))))))))))), ?_⟩
    unfold rLine at k
    refine q_when (b := !canBe ws) (et_not (et_B (ev_call (ea_cons (ev_var rfl) ea_nil) (sv_of fun H1 e1 => ⟨p, qs, ws, rfl, hW.ex e1, rfl⟩)))) (fun hb H1 e1 => ?_) (fun hb H1 e1 => ?_)
    · rw [if_neg (by intro z; rw [z] at hb; cases hb)] at k
      exact s_ret ev_c fun H2 e2 => k H2 (e1.trans e2)
    have hc : canBe ws = true := by simpa using hb
    rw [if_pos hc] at k
    obtain ⟨a0, ha0, g0, ne0, le0⟩ := hW.get (i := 0) (by omega)
    have g0 : H a0 = some (.lst ((byZ (wd ws 0)).map V.int)) := by rw [← byV_z]; exact g0
    refine q_asg (ev_ixL (j := 0) (ev_var rfl) ev_c (SqL.of (e1 _ _ hW.l)) rfl (refV_get ha0)) fun H2 e2' => ?_
    have e2 := e1.trans e2'
    clear e1 e2'
    unfold rWords at k
    have tst : ∀ (x : Str) (b : Bytes), x.cps.toList = b → x.cps.size ≤ 1000 → ∀ {H3 : Hp} {σ : L2.St} {te : TE} {E : XK}, Ex H H3 → Ev te σ H3 (.str x) → σ[2]? = some (some (.ref a0)) → EvT (tTest (tOp (rEqD K) (tVar 2) (tCall (spL pSigns) [] E (tCons te tNil)))) σ H3 (decide (wd ws 0 = b)) := fun x b hx hz {H3 σ te E} e3 he hs =>
      et_is (et_test (ev_eqLN (a := byZ (wd ws 0)) (b := byZ b) (ev_var hs) (signs_of he hz hx) (SqL.of (e3 _ _ g0)))) ((byZ_dec _ _).trans (by
        by_cases h : wd ws 0 = b
        · rw [decide_eq_true h, h]
          exact beq_self_eq_true _
        · rw [decide_eq_false h]
          simpa using h))
    refine q_when (tst "arbor" (ascii "arbor") (by decide +kernel) (by decide +kernel) e2 ev_c rfl) (fun hb H3 e3' => ?_) (fun hb H3 e3' => ?_)
    · rw [if_pos (of_decide_eq_true hb)] at k
      have ex := e2.trans e3'
      exact s_retR (r := rArbor) (ea_cons (ev_var rfl) (ea_cons (ev_var rfl) ea_nil)) (hA.ex ex) hF (hW.ex ex) hc h1 (hfr.ex ex) ex k
    rw [if_neg (of_decide_eq_false hb)] at k
    have e3 := e2.trans e3'
    clear e2 e3'
    refine q_when (tst "drive" (ascii "drive") (by decide +kernel) (by decide +kernel) e3 ev_c rfl) (fun hb H4 e4' => ?_) (fun hb H4 e4' => ?_)
    · rw [if_pos (of_decide_eq_true hb)] at k
      have ex := e3.trans e4'
      exact s_retR (r := rDrive) (ea_cons (ev_var rfl) (ea_cons (ev_var rfl) ea_nil)) (hA.ex ex) hF (hW.ex ex) hc h1 (hfr.ex ex) ex k
    rw [if_neg (of_decide_eq_false hb)] at k
    have e4 := e3.trans e4'
    clear e3 e4'
    refine q_when (tst "wheel" (ascii "wheel") (by decide +kernel) (by decide +kernel) e4 ev_c rfl) (fun hb H5 e5' => ?_) (fun hb H5 e5' => ?_)
    · rw [if_pos (of_decide_eq_true hb)] at k
      have ex := e4.trans e5'
      exact s_retR (r := rWheel) (ea_cons (ev_var rfl) (ea_cons (ev_var rfl) ea_nil)) (hA.ex ex) hF (hW.ex ex) hc h1 (hfr.ex ex) ex k
    rw [if_neg (of_decide_eq_false hb)] at k
    have e5 := e4.trans e5'
    clear e4 e5'
    refine q_when (tst "mesh" (ascii "mesh") (by decide +kernel) (by decide +kernel) e5 ev_c rfl) (fun hb H6 e6' => ?_) (fun hb H6 e6' => ?_)
    · rw [if_pos (of_decide_eq_true hb)] at k
      have ex := e5.trans e6'
      exact s_retR (r := rMesh) (ea_cons (ev_var rfl) (ea_cons (ev_var rfl) ea_nil)) (hA.ex ex) hF (hW.ex ex) hc h1 (hfr.ex ex) ex k
    rw [if_neg (of_decide_eq_false hb)] at k
    have e6 := e5.trans e6'
    clear e5 e6'
    refine q_when (tst "jump" (ascii "jump") (by decide +kernel) (by decide +kernel) e6 ev_c rfl) (fun hb H7 e7' => ?_) (fun hb H7 e7' => ?_)
    · rw [if_pos (of_decide_eq_true hb)] at k
      have ex := e6.trans e7'
      exact s_retR (r := rJump) (ea_cons (ev_var rfl) (ea_cons (ev_var rfl) ea_nil)) (hA.ex ex) hF (hW.ex ex) hc h1 (hfr.ex ex) ex k
    rw [if_neg (of_decide_eq_false hb)] at k
    have e7 := e6.trans e7'
    clear e6 e7'
    refine q_when (tst "hand" (ascii "hand") (by decide +kernel) (by decide +kernel) e7 ev_c rfl) (fun hb H8 e8' => ?_) (fun hb H8 e8' => ?_)
    · rw [if_pos (of_decide_eq_true hb)] at k
      have ex := e7.trans e8'
      exact s_retR (r := rHand) (ea_cons (ev_var rfl) (ea_cons (ev_var rfl) ea_nil)) (hA.ex ex) hF (hW.ex ex) hc h1 (hfr.ex ex) ex k
    rw [if_neg (of_decide_eq_false hb)] at k
    have e8 := e7.trans e8'
    clear e7 e8'
    refine q_when (tst "count" (ascii "count") (by decide +kernel) (by decide +kernel) e8 ev_c rfl) (fun hb H9 e9' => ?_) (fun hb H9 e9' => ?_)
    · rw [if_pos (of_decide_eq_true hb)] at k
      have ex := e8.trans e9'
      exact s_retR (r := rCount) (ea_cons (ev_var rfl) (ea_cons (ev_var rfl) ea_nil)) (hA.ex ex) hF (hW.ex ex) hc h1 (hfr.ex ex) ex k
    rw [if_neg (of_decide_eq_false hb)] at k
    have e9 := e8.trans e9'
    clear e8 e9'
    refine q_when (tst "rack" (ascii "rack") (by decide +kernel) (by decide +kernel) e9 ev_c rfl) (fun hb H10 e10' => ?_) (fun hb H10 e10' => ?_)
    · rw [if_pos (of_decide_eq_true hb)] at k
      have ex := e9.trans e10'
      exact s_retR (r := rRack) (ea_cons (ev_var rfl) (ea_cons (ev_var rfl) ea_nil)) (hA.ex ex) hF (hW.ex ex) hc h1 (hfr.ex ex) ex k
    rw [if_neg (of_decide_eq_false hb)] at k
    have e10 := e9.trans e10'
    clear e9 e10'
    refine q_when (tst "calendar" (ascii "calendar") (by decide +kernel) (by decide +kernel) e10 ev_c rfl) (fun hb H11 e11' => ?_) (fun hb H11 e11' => ?_)
    · rw [if_pos (of_decide_eq_true hb)] at k
      have ex := e10.trans e11'
      exact s_retR (r := rCalendar) (ea_cons (ev_var rfl) (ea_cons (ev_var rfl) ea_nil)) (hA.ex ex) hF (hW.ex ex) hc h1 (hfr.ex ex) ex k
    rw [if_neg (of_decide_eq_false hb)] at k
    have e11 := e10.trans e11'
    clear e10 e11'
    exact s_ret ev_c fun Hx ex => k Hx (e11.trans ex)
/-- what read_text promises: the first fault, or the works -/
def spT : Sp := fun vs H Q _ => ∃ (L : Lay) (tp : Addr) (t : Bytes), vs = [.ref L.a, .ref tp] ∧ WAt T H L (raw {}) ∧ SqL K H tp (byV t) ∧ t.length ≤ 4000 ∧ H T.td ≠ none ∧ T.td ∉ ownL L ∧ (match Mu07.read t with
  | .error (n, k) => ∀ p H', H p = none → KeptL (ownL L) H H' → (∀ a ∈ ownL L, H' a ≠ none) → H' p = some (.tup [.int (n : Nat), .int (k : Nat)]) → Q (.ref p) H'
  | .ok X => ∀ L' H', SameL L L' → WAt T H' L' (raw X) → Wf X → X.drive.isSome = true → KeptL (ownL L) H H' → Q .non H')
variable {T}
theorem WAt.own {H : Hp} {L : Lay} {s : Mu07.State} (h : WAt T H L s) : ∀ b ∈ ownL L, H b ≠ none := fun b hb => by
  unfold ownL at hb
  simp only [List.mem_cons, List.not_mem_nil, or_false] at hb
  rcases hb with rfl | rfl | rfl | rfl | rfl | rfl | rfl | rfl
  · rw [h.w]; exact fun z => by cases z
  · rw [h.lists.la]; exact fun z => by cases z
  · rw [h.lists.lw]; exact fun z => by cases z
  · rw [h.lists.lm]; exact fun z => by cases z
  · rw [h.lists.ls]; exact fun z => by cases z
  · rw [h.lists.lh]; exact fun z => by cases z
  · rw [h.lists.lk]; exact fun z => by cases z
  · rw [h.lists.lc]; exact fun z => by cases z
theorem q_asgR {σ : L2.St} {H : Hp} {D : Ends} {ta : TA} {tz : TS} {E : XK} {i : Nat} {L : Lay} {W : Works} {p : Addr} {qs : List Addr} {ws : List Bytes} (h : EvA ta σ H [.ref L.a, .ref p]) (hA : WAt T H L (raw W)) (hF : Wf W) (hW : WordsAt H p qs ws) (h1 : 1 ≤ ws.length) (hfr : Far T H qs)
    (ke : ∀ k, rLine W ws = .error k → ∀ H', Ex H H' → tz D (σ.set i (some (.int (k : Nat)))) H') (ko : ∀ X, rLine W ws = .ok X → ∀ L' H', SameL L L' → WAt T H' L' (raw X) → KeptL (ownL L) H H' → tz D (σ.set i (some (.int 0))) H') :
    tSeq (tAsg (tCall (spRL T) [] E ta) (gName i)) tz D σ H := h H (Ex.refl H) _ fun H1 e1 => ⟨L, W, p, qs, ws, rfl, hA.ex e1, hF, hW.ex e1, h1, hfr.ex e1, by
  cases hr : rLine W ws with
  | error n => exact fun H' e => ke n hr H' (e1.trans e)
  | ok X => exact fun L' H' s a kp => ko X hr L' H' s a ((KeptL.of e1).trans kp)⟩
variable (T)
theorem ok_read_text : FnOk P w K mg base CX0 7 T.read_text.f T.read_text.fd ["works", "text"] (spT T) := by
  refine T.read_text.F.ok sc_read_text (fun vs H Q E h => ?_) (fun cdv A outer s H vs Q E hr h => ?_)
  · obtain ⟨L, tp, t, rfl, _⟩ := h
    rfl
  · obtain ⟨L, tp, t, rfl, hA, ht, hz, htd0, htdo, k⟩ := h
    refine ⟨_, (pss_cons (ps_set (i := 2) sc_read_text.nd rfl (Or.inl rfl) (pe_call (ok_split_at T) (hr.mono (by decide)) (by rfl) T.split_at.g T.split_at.F.kp T.split_at.b .nil pass0 (pa_cons (pv 1) (pa_cons pe_int pa_nil))))
    (pss_cons (ps_for PassesOwn.never rfl (pi_range1 (by rfl) T.b_range (pa_cons (pe_callB call_len_seq (by rfl) T.b_len (by decide +kernel) (pa_cons (pv 2) pa_nil)) pa_nil)) (pg_name (i := 3) sc_read_text.nd rfl (Or.inl rfl))
    (pss_cons (ps_set (i := 4) sc_read_text.nd rfl (Or.inl rfl) (pe_ix ix_list (pv 2) (pv 3) (fun _ _ => rfl)))
    (pss_cons (ps_set (i := 5) sc_read_text.nd rfl (Or.inl rfl) (pe_call (ok_line_words T) (hr.mono (by decide)) (by rfl) T.line_words.g T.line_words.F.kp T.line_words.b .nil pass0 (pa_cons (pv 4) pa_nil)))
    (pss_one (ps_if (PW.pt (pw_and (pt_cmpR op_gt (pe_callB call_len_seq (by rfl) T.b_len (by decide +kernel) (pa_cons (pv 5) pa_nil)) pe_int (nomark _)) (pw_and1 (pt_cmpR op_ne (pe_ix ix_list (pv 4) pe_int (fun _ _ => rfl)) pe_int (nomark _)))))
    (pss_cons (ps_set (i := 6) sc_read_text.nd rfl (Or.inl rfl) (pe_call (ok_read_words T) (hr.mono (by decide)) (by rfl) T.read_words.g T.read_words.F.kp T.read_words.b .nil pass0 (pa_cons (pv 0) (pa_cons (pv 5) pa_nil))))
    (pss_one (ps_if (pt_cmpR op_gt (pv 6) pe_int (nomark _))
    (pss_one (ps_ret (pe_tup (pa_cons (pe_op op_add (pv 3) pe_int) (pa_cons (pv 6) pa_nil))))) pss_nil))) pss_nil)))))
    (pss_cons (ps_if (pt_cmpR op_isN (pe_fld (pv 0) rfl) pe_non (nomark _))
    (pss_one (ps_ret (pe_tup (pa_cons pe_int (pa_cons pe_int pa_nil))))) pss_nil)
    (pss_one (ps_ret pe_non))))), ?_⟩
    refine q_asgLL (rows := splitB 10 t) (ell_call (ea_cons (ev_var rfl) (ea_cons ev_c ea_nil)) fun H1 e1 => ⟨tp, t, 10, rfl, ex_l e1 ht, hz, rfl⟩) fun lp lq H1 nlp nlq e1 hlp hlr => ?_
    have hll := hlr.wlen
    have sl := split_len 10 t
    have ssz := split_sz 10 t
    have rd : Mu07.read t = Mu07.readFrom {} 1 (splitB 10 t) := by
      unfold Mu07.read
      rw [lines_is]
    rw [rd] at k
    generalize splitB 10 t = ls at *
    have hA1 := hA.ex e1
    have own1 : ∀ b, H b = none → b ∉ ownL L := fun b hb hm => hA.own b hm hb
    refine q_forR1 (n := (ls.length : Int)) (ea_cons (ev_is (ev_len (ev_var rfl) (SqL.of hlp)) (by rw [refV_len, hll])) ea_nil) ⟨by omega, by omega⟩
      (fun i σ' H' => ∃ (L' : Lay) (W' : Works) (o1 o2 o3 o4 : Option V), σ' = [some (.ref L.a), some (.ref tp), some (.ref lp), o1, o2, o3, o4] ∧ SameL L L' ∧ WAt T H' L' (raw W') ∧ Wf W' ∧ KeptL (ownL L) H1 H' ∧ Mu07.readFrom {} 1 ls = Mu07.readFrom W' (i + 1) (ls.drop i))
      (fun H2 e2 => ⟨L, {}, none, none, none, none, rfl, SameL.refl L, hA1.ex e2, Wf.empty, KeptL.of e2, rfl⟩) (fun i σ' H' hi hP => ?_) (fun σ' H' hP => ?_)
    · obtain ⟨L', W', o1, o2, o3, o4, rfl, hS, hA', hF', hK, hr'⟩ := hP
      have hi' : i < ls.length := by omega
      have hiq : i < lq.length := by omega
      have hlp' := hK lp _ hlp (own1 lp nlp)
      have hq0 : lq[i]? = some lq[i] := List.getElem?_eq_getElem hiq
      have hl0 : ls[i]? = some ls[i] := List.getElem?_eq_getElem hi'
      have hline := hlr.word hq0 hl0
      have htd' : H' T.td ≠ none := by
        cases hh : H T.td with
        | none => exact absurd hh htd0
        | some o =>
          rw [hK _ _ (e1 _ _ hh) htdo]
          exact fun z => by cases z
      have hline' := hK _ _ hline (own1 _ (nlq _ (List.getElem_mem _)))
      have lsz := ssz _ (List.getElem_mem hi')
      have hdrop : ls.drop i = ls[i] :: ls.drop (i + 1) := List.drop_eq_getElem_cons hi'
      rw [hdrop, readFrom_cons] at hr'
      generalize ls[i] = line at *
      generalize lq[i] = lineA at *
      refine q_asg (ev_ixL (j := i) (ev_var rfl) (ev_var rfl) (SqL.of hlp') rfl (refV_get hq0)) fun H2 e2 => ?_
      refine q_asgLL (rows := wordsB line) (ell_call (ea_cons (ev_var rfl) ea_nil) fun H3 e3 => ⟨lineA, line, rfl, SqL.of ((e2.trans e3) _ _ hline'), by omega, rfl⟩) fun wp wq H3 nwp nwq e3 hwp hwr => ?_
      have hW : WordsAt H3 wp wq (wordsB line) := ⟨hwp, hwr, fun w hw => ⟨(wordsB_ne line w hw).1, by have := (wordsB_ne line w hw).2; omega⟩, by have := wordsB_len line; omega⟩
      have e23 := e2.trans e3
      have hA3 := hA'.ex e23
      have eLa : L'.a = L.a := hS.a
      have tne : wordsB line ≠ [] → 0 < line.length := fun h => by
        cases line with
        | nil => exact absurd rfl h
        | cons a r => simp
      refine s_when (b := decide (0 < (wordsB line).length) && decide (line.getD 0 0 ≠ 35)) (et_and (et_is (et_test (ev_i (ev_len (ev_var rfl) (SqL.of hwp)) ev_c)) (by rw [refV_len, hW.len]; exact dlt (a := 0))) fun h0 => (by
        have h0 := of_decide_eq_true h0
        have hl0 := tne fun z => by rw [z] at h0; exact absurd h0 (by decide)
        exact et_is (et_test (ev_neI (ev_ixL (j := 0) (ev_var rfl) ev_c (SqL.of (e23 _ _ hline')) rfl (byV_get hl0)) ev_c)) (by
          by_cases h : line.getD 0 0 = 35
          · rw [h]
            rfl
          · rw [decide_eq_true h]
            have : ¬ ((line.getD 0 0 : Nat) : Int) = 35 := by omega
            have : (((line.getD 0 0 : Nat) : Int) == 35) = false := by simpa using this
            rw [this]
            rfl))) (fun hb H4 e4 => ?_) (fun hb H4 e4 => ?_)
      · rw [Bool.and_eq_true] at hb
        have hb1 := of_decide_eq_true hb.1
        have hb2 := of_decide_eq_true hb.2
        rw [if_pos ⟨hb1, hb2⟩] at hr'
        have e24 := e23.trans e4
        refine q_asgR (L := L') (W := W') (ea_cons (ev_var (by rw [eLa]; rfl)) (ea_cons (ev_var rfl) ea_nil)) (hA'.ex e24) hF' (hW.ex e4) hb1 ⟨ex_some htd' e24, fun q hq => ne_td htd' e2 (nwq q hq)⟩ (fun n hn H5 e5 => ?_) fun X hX L2 H5 hS2 hA5 hK5 => ?_
        · rw [hn] at hr'
          have hr' : Mu07.readFrom {} 1 ls = .error (i + 1, n) := hr'
          rw [hr'] at k
          have npos := rLine_pos hn
          refine s_when (b := true) (et_is (et_test (ev_i (ev_var rfl) ev_c)) (decide_eq_true (by omega))) (fun _ H6 e6 => ?_) (fun z => by cases z)
          refine s_retU (eu_tup (ea_cons (ev_i (ev_var rfl) ev_c) (ea_cons (ev_var rfl) ea_nil)) (Nat.le_of_ble_eq_true rfl)) fun pt H7 npt e7 hpt => ?_
          have hk7 : KeptL (ownL L) H H7 := ((KeptL.of e1).trans hK).trans (KeptL.of (((e24.trans e5).trans e6).trans e7))
          refine k pt H7 ?_ hk7 (fun a ha => by
            rw [← hS.own] at ha
            exact ((hA'.ex e24).ex ((e5.trans e6).trans e7)).own a ha) (by rw [hpt]; rfl)
          cases hh : H pt with
          | none => rfl
          | some o =>
            by_cases hm : pt ∈ ownL L
            · rw [← hS.own] at hm
              exact absurd npt (((hA'.ex e24).ex (e5.trans e6)).own pt hm)
            · have := ((KeptL.of e1).trans hK) pt o hh hm
              rw [((e24.trans e5).trans e6) _ _ this] at npt
              cases npt
        · rw [hX] at hr'
          refine s_when (b := false) (et_is (et_test (ev_i (ev_var rfl) ev_c)) rfl) (fun z => by cases z) (fun _ H6 e6 => ?_)
          rw [hS.own] at hK5
          exact ⟨L2, X, _, _, _, _, rfl, hS.trans hS2, hA5.ex e6, hF'.words (fun z => by rw [z] at hb1; exact absurd hb1 (by decide)) hX, (((hK.trans (KeptL.of e24)).trans hK5).trans (KeptL.of e6)), hr'⟩
      · have hn : ¬ (0 < (wordsB line).length ∧ line.getD 0 0 ≠ 35) := fun z => by
          rw [decide_eq_true z.1, decide_eq_true z.2] at hb
          cases hb
        rw [if_neg hn] at hr'
        exact ⟨L', W', _, _, _, _, rfl, hS, hA'.ex (e23.trans e4), hF', hK.trans (KeptL.of (e23.trans e4)), hr'⟩
    · obtain ⟨L', W', o1, o2, o3, o4, rfl, hS, hA', hF', hK, hr'⟩ := hP
      have et : ((ls.length : Int)).toNat = ls.length := by omega
      rw [et, List.drop_length] at hr'
      have hr' : Mu07.readFrom {} 1 ls = if W'.drive.isNone = true then .error (0, 7) else .ok W' := hr'
      rw [hr'] at k
      have eLa : L'.a = L.a := hS.a
      have fd := T.fd_works_driver hA'.w
      rw [eLa] at fd
      refine q_when (b := W'.drive.isNone) (et_test (ev_is (ev_op (ev_fld (ev_var rfl) fd) ev_c rv_isN) (congrArg V.bl (by
        show decide (drvV L'.ar W'.drive = V.non) = W'.drive.isNone
        cases W'.drive with
        | none => rfl
        | some x => exact decide_eq_false fun z => by cases z)))) (fun hb H2 e2 => ?_) (fun hb H2 e2 => ?_)
      · rw [if_pos hb] at k
        refine s_retU (eu_tup (ea_cons ev_c (ea_cons ev_c ea_nil)) (Nat.le_of_ble_eq_true rfl)) fun pt H3 npt e3 hpt => ?_
        refine k pt H3 ?_ (((KeptL.of e1).trans hK).trans (KeptL.of (e2.trans e3))) (fun a ha => by
          rw [← hS.own] at ha
          exact (hA'.ex (e2.trans e3)).own a ha) hpt
        cases hh : H pt with
        | none => rfl
        | some o =>
          by_cases hm : pt ∈ ownL L
          · rw [← hS.own] at hm
            exact absurd npt ((hA'.ex e2).own pt hm)
          · have := ((KeptL.of e1).trans hK) pt o hh hm
            rw [e2 _ _ this] at npt
            cases npt
      · rw [if_neg (by rw [hb]; decide)] at k
        exact s_ret ev_c fun H3 e3 => k L' H3 hS (hA'.ex (e2.trans e3)) hF' (by cases h : W'.drive with
          | none => rw [h] at hb; cases hb
          | some x => rfl) (((KeptL.of e1).trans hK).trans (KeptL.of (e2.trans e3)))
end
end Cw

/-! The walk through rates: the rows of the works. -/
namespace Cw
open PySem PySem.Spec PyProof.Rows L2 Evl
open Mu07 (State Goes Works Star Q frac whole Bytes)
theorem frac_le (n d : Int) : (frac n d).n.natAbs ≤ n.natAbs ∧ (frac n d).d ≤ max 1 d.natAbs := by
  by_cases h : d = 0
  · subst h
    rw [frac_zero]
    exact ⟨Nat.zero_le _, Nat.le_max_left _ _⟩
  · rw [frac_eq h]
    refine ⟨?_, Nat.le_trans (Nat.div_le_self _ _) (Nat.le_max_right _ _)⟩
    refine Nat.le_trans (Int.natAbs_ediv_le_natAbs _ _) ?_
    split <;> omega
theorem frac_rate {n d : Int} (hn : Bt 460 n) (hd : Bt 460 d) : RateOk (frac n d) := by
  obtain ⟨a, b⟩ := frac_le n d
  refine ⟨frac_nm n d, Nat.lt_of_le_of_lt a hn, ?_⟩
  unfold Bt at *
  have : (((frac n d).d : Int)).natAbs = (frac n d).d := Int.natAbs_natCast _
  rw [this]
  refine Nat.lt_of_le_of_lt b ?_
  have : 1 < 2 ^ 460 := Nat.one_lt_two_pow (by decide)
  omega
theorem rate_zero : RateOk (whole 0) := ⟨whole_nm 0, Nat.two_pow_pos 460, Nat.one_lt_two_pow (by decide)⟩
theorem rateIn_ok {rows : List (List Int)} (h : ∀ r ∈ rows, Row460 r) {c : Nat} {q : Q} (e : rateIn rows c = some q) : RateOk q := by
  unfold rateIn at e
  cases hf : rows.find? (fun r => used r == [c]) with
  | none => rw [hf] at e; cases e
  | some r =>
    rw [hf] at e
    have e : some (frac (lastOf r) (r.getD c 0)) = some q := e
    injection e with e
    rw [← e]
    have hr := h r (List.mem_of_find?_eq_some hf)
    refine frac_rate ?_ (hr.get c)
    exact hr.get _
/-! ### small numbers -/
def Al (B : Nat) (r : List Int) : Prop := ∀ x ∈ r, x.natAbs ≤ B
theorem Al.get {B : Nat} {r : List Int} (h : Al B r) (i : Nat) : (r.getD i 0).natAbs ≤ B := by
  by_cases hi : i < r.length
  · rw [getD_get hi]
    exact h _ (List.getElem_mem hi)
  · rw [List.getD_eq_getElem?_getD, List.getElem?_eq_none (by omega)]
    exact Nat.zero_le _
theorem Al.set {B C : Nat} {r : List Int} (h : Al B r) (hBC : B ≤ C) {i : Nat} {z : Int} (hz : z.natAbs ≤ C) : Al C (r.set i z) := fun x hx => by
  rcases List.mem_or_eq_of_mem_set hx with m | rfl
  · exact Nat.le_trans (h x m) hBC
  · exact hz
theorem Al.add {B C : Nat} {r : List Int} (h : Al B r) {i : Nat} {z : Int} (hz : B + z.natAbs ≤ C) : Al C (addAt r i z) := by
  have := h.get i
  exact h.set (by omega) (by omega)
theorem Al.zero (n : Nat) : Al 0 (List.replicate n (0 : Int)) := fun x hx => by
  rw [List.eq_of_mem_replicate hx]
  exact Nat.le_refl _
theorem meshZ_al {n a b v w : Nat} {ins : Bool} {on : Option Nat} (hv : v ≤ 400) (hw : w ≤ 400) : Al 1600 (meshZ n a b v w ins on) := by
  unfold meshZ
  dsimp only
  have hw' : (if ins = true then -(w : Int) else (w : Int)).natAbs ≤ 400 := by split <;> omega
  generalize (if ins = true then -(w : Int) else (w : Int)) = w' at *
  have h2 : Al 800 (addAt (addAt (List.replicate (n + 1) (0 : Int)) a v) b w') := ((Al.zero (n + 1)).add (C := 400) (by omega)).add (by omega)
  cases on with
  | none => exact fun x hx => Nat.le_trans (h2 x hx) (by decide)
  | some c =>
    have := h2.get c
    exact h2.set (by decide) (by omega)
theorem driveZ_al {n i s : Nat} (h : s ≤ 999999999) : Al 1000000000 (driveZ n i s) := ((Al.zero (n + 1)).set (C := 1000000000) (Nat.zero_le _) (by omega)).set (Nat.le_refl _) (by decide)
theorem wheelAt_of {W : Works} {i : Nat} {x : Mu07.Wheel} (h : W.wheels[i]? = some x) : wheelAt W i = x := by
  unfold wheelAt
  rw [List.getD_eq_getElem?_getD, h]
  rfl
theorem Wf.rows_in {W : Works} (F : Wf W) {i s : Nat} (hd : W.drive = some (i, s)) : RowsIn W.arbors.length (rowsZ W) := by
  refine ⟨F.na, F.rowsZ_len hd, ?_, fun r hr x hx => ?_⟩
  · show (driveRowZ W :: W.meshes.map (meshRowZ W)).length ≤ 100
    rw [List.length_cons, List.length_map]
    have := F.nm
    omega
  · rcases List.mem_cons.mp hr with rfl | hr
    · unfold driveRowZ at hx
      rw [hd] at hx
      exact driveZ_al (F.drive i s hd).2.2 x hx
    · obtain ⟨m, hm, rfl⟩ := List.mem_map.mp hr
      obtain ⟨h1, h2, h3⟩ := F.mesh m hm
      obtain ⟨_, _, v4⟩ := F.wheelOk h1
      obtain ⟨_, _, w4⟩ := F.wheelOk h2
      exact Nat.le_trans (meshZ_al v4 w4 x hx) (by decide)
section
variable {K : PySem.W.Frag} {σ : L2.St} {H : Hp} {ta tb te : TE} {tz : TS} {D : Ends}
theorem el_rep {xs : List V} {k : Nat} (ha : EvL ta σ H xs) (hb : ∀ H1, Ex H H1 → Ev tb σ H1 (.int (k : Int))) (h : xs.length * k ≤ 100000) (hk : k ≤ 100000) : EvL (tOp rRep ta tb) σ H (List.replicate k xs).flatten := fun H1 e Q q =>
  ha H1 e _ fun l H2 nl e2 hl => hb H2 (e.trans e2) H2 (Ex.refl H2) _ fun H3 e3 => ⟨l, (k : Int), xs, rfl, rfl, e3 _ _ hl, by omega, by omega, by rw [Int.toNat_natCast]; exact Nat.le_trans h (by decide), fun p np => by
    rw [Int.toNat_natCast]
    exact q p _ (fresh_back (e2.trans e3) np) ((e2.trans e3).trans (Ex.new np)) upd_same⟩
/-- a new list of a new list -/
theorem q_asgL1 {i : Nat} {xs : List V} (h : EvL te σ H xs) (k : ∀ r p H1, H r = none → H p = none → p ≠ r → Ex H H1 → H1 r = some (.lst xs) → H1 p = some (.lst [.ref r]) → tz D (σ.set i (some (.ref p))) H1) : tSeq (tAsg (tLst (tCons te tNil)) (gName i)) tz D σ H :=
  h H (Ex.refl H) _ fun r H2 nr e2 hr => ⟨Nat.le_of_ble_eq_true rfl, fun p np => k r p _ nr (fresh_back e2 np) (fun z => by rw [z, hr] at np; cases np) (e2.trans (Ex.new np)) (by rw [upd_ne (fun z => by rw [← z, hr] at np; cases np)]; exact hr) upd_same⟩
end
theorem flat_zero (k : Nat) : (List.replicate k [V.int 0]).flatten = zV (List.replicate k (0 : Int)) := by
  induction k with
  | zero => rfl
  | succ n ih =>
    rw [List.replicate_succ, List.flatten_cons, ih, List.replicate_succ]
    rfl
theorem zV_set (r : List Int) (i : Nat) (z : Int) : (zV r).set i (.int z) = zV (r.set i z) := by
  unfold zV
  rw [List.map_set]
theorem zV_getD {r : List Int} {i : Nat} (h : i < r.length) : (zV r)[i]? = some (.int (r.getD i 0)) := by
  unfold zV
  rw [List.getElem?_map, getD_get h, List.getElem?_eq_getElem h]
  rfl
section
variable {P : Program} {w : World} {K : PySem.W.Frag} {mg : Str → Option Value} {base : Heap} (T : Txt K mg)
def pDriveRow : List V → Hp → List V → Prop := fun vs H xs => ∃ (L : Lay) (s : State), vs = [.ref L.a] ∧ WAt T H L s ∧ Wf s.works ∧ s.works.drive.isSome = true ∧ xs = zV (driveRowZ s.works)
theorem ok_drive_row : FnOk P w K mg base CX0 1 T.drive_row.f T.drive_row.fd ["works"] (spL (pDriveRow T)) := by
  refine T.drive_row.F.ok sc_drive_row (fun vs H Q E h => ?_) (fun cdv A outer s H vs Q E hr h => ?_)
  · obtain ⟨z, ⟨L, s, rfl, _⟩, _⟩ := h
    rfl
  · obtain ⟨z, ⟨L, s, rfl, hA, hF, hd, rfl⟩, k⟩ := h
    refine ⟨_, (pss_cons (ps_set (i := 1) sc_drive_row.nd rfl (Or.inl rfl) (pe_op op_rep (pe_lst (pa_cons pe_int pa_nil)) (pe_op op_add (pe_callB call_len_seq (by rfl) T.b_len (by decide +kernel) (pa_cons (pe_fld (pv 0) rfl) pa_nil)) pe_int)))
    (pss_cons (ps_asg (pe_fld (pv 0) rfl) (pg_sub (pv 1) (pe_fld (pe_fld (pv 0) rfl) rfl) set_list))
    (pss_cons (ps_asg pe_int (pg_sub (pv 1) (pe_callB call_len_seq (by rfl) T.b_len (by decide +kernel) (pa_cons (pe_fld (pv 0) rfl) pa_nil)) set_list))
    (pss_one (ps_ret (pv 1)))))), ?_⟩
    obtain ⟨⟨i, sec⟩, hd⟩ : ∃ d, s.works.drive = some d := Option.isSome_iff_exists.mp hd
    have hz : driveRowZ s.works = driveZ s.works.arbors.length i sec := by
      unfold driveRowZ
      rw [hd]
    rw [hz] at k
    have arl := hA.lens.ar
    have na := hF.na
    obtain ⟨hi, _⟩ := hF.drive i sec hd
    have hi' : i < L.ar.length := by omega
    obtain ⟨nm, dx, nA, _, hm, _⟩ := hA.arbs i L.ar[i] (List.getElem?_eq_getElem hi')
    have hdr : drvV L.ar s.works.drive = .ref L.ar[i] := by
      rw [hd]
      exact congrArg V.ref (getD_some (List.getElem?_eq_getElem hi'))
    have hse : secZ s.works.drive = (sec : Int) := by rw [hd]; rfl
    generalize hn : s.works.arbors.length = n at *
    refine q_asgL (xs := zV (List.replicate (n + 1) (0 : Int))) (by
      rw [← flat_zero]
      exact el_rep (el_lst (ea_cons ev_c ea_nil) (Nat.le_of_ble_eq_true rfl)) (fun H1 e1 => ev_is (ev_i (ev_len (ev_fld (ev_var rfl) (T.fd_works_arbors (e1 _ _ hA.w))) (SqL.of (e1 _ _ hA.lists.la))) ev_c) (congrArg V.int (by rw [refV_len, arl]; omega))) (by show 1 * (n + 1) ≤ 100000; omega) (by omega)) fun r H1 nr e1 hr1 => ?_
    have hA1 := hA.ex e1
    have fd := T.fd_works_driver hA1.w
    rw [hdr] at fd
    have fs := T.fd_works_seconds hA1.w
    rw [hse] at fs
    have l0 : (List.replicate (n + 1) (0 : Int)).length = n + 1 := List.length_replicate
    refine q_setL (j := i) hr1 (ev_fld (ev_var rfl) fs) (ev_var rfl) (ev_fld (ev_fld (ev_var rfl) fd) (T.fd_mover_place (e1 _ _ hm))) (by unfold zV; rw [List.length_map, l0]; omega) fun H2 e2 => ?_
    rw [zV_set]
    have x2 : Ex H (upd H2 r (.lst (zV ((List.replicate (n + 1) (0 : Int)).set i (sec : Int))))) := Ex.mut (e1.trans e2) nr
    have hA2 := hA.ex x2
    refine q_setL (j := n) (xs := zV ((List.replicate (n + 1) (0 : Int)).set i (sec : Int))) upd_same ev_c (ev_var rfl) (ev_is (ev_len (ev_fld (ev_var rfl) (T.fd_works_arbors hA2.w)) (SqL.of hA2.lists.la)) (congrArg V.int (by rw [refV_len, arl]))) (by unfold zV; rw [List.length_map, List.length_set, l0]; omega) fun H3 e3 => ?_
    rw [zV_set]
    refine s_ret (ev_var rfl) fun H4 e4 => k r H4 nr ((Ex.mut (x2.trans e3) nr).trans e4) (e4 _ _ upd_same)
def pMeshRow : List V → Hp → List V → Prop := fun vs H xs => ∃ (L : Lay) (s : State) (j : Nat) (mp : Addr) (m : Mu07.Mesh), vs = [.ref L.a, .ref mp] ∧ WAt T H L s ∧ Wf s.works ∧ L.me[j]? = some mp ∧ s.works.meshes[j]? = some m ∧ xs = zV (meshRowZ s.works m)
theorem ok_mesh_row : FnOk P w K mg base CX0 1 T.mesh_row.f T.mesh_row.fd ["works", "mesh"] (spL (pMeshRow T)) := by
  refine T.mesh_row.F.ok sc_mesh_row (fun vs H Q E h => ?_) (fun cdv A outer s H vs Q E hr h => ?_)
  · obtain ⟨z, ⟨L, s, j, mp, m, rfl, _⟩, _⟩ := h
    rfl
  · obtain ⟨z, ⟨L, s, j, mp, m, rfl, hA, hF, hmp, hm, rfl⟩, k⟩ := h
    refine ⟨_, (pss_cons (ps_set (i := 2) sc_mesh_row.nd rfl (Or.inl rfl) (pe_op op_rep (pe_lst (pa_cons pe_int pa_nil)) (pe_op op_add (pe_callB call_len_seq (by rfl) T.b_len (by decide +kernel) (pa_cons (pe_fld (pv 0) rfl) pa_nil)) pe_int)))
    (pss_cons (ps_set (i := 3) sc_mesh_row.nd rfl (Or.inl rfl) (pe_fld (pe_fld (pv 1) rfl) rfl))
    (pss_cons (ps_set (i := 4) sc_mesh_row.nd rfl (Or.inl rfl) (pe_fld (pe_fld (pv 1) rfl) rfl))
    (pss_cons (ps_if (pt_val (pe_fld (pv 1) rfl))
    (pss_one (ps_set (i := 4) sc_mesh_row.nd rfl (Or.inl rfl) (pe_un un_neg (pv 4)))) pss_nil)
    (pss_cons (ps_set (i := 5) sc_mesh_row.nd rfl (Or.inl rfl) (pe_fld (pe_fld (pe_fld (pv 1) rfl) rfl) rfl))
    (pss_cons (ps_set (i := 6) sc_mesh_row.nd rfl (Or.inl rfl) (pe_fld (pe_fld (pe_fld (pv 1) rfl) rfl) rfl))
    (pss_cons (ps_asg (pe_op op_add (pe_ix ix_list (pv 2) (pv 5) (fun _ _ => rfl)) (pv 3)) (pg_sub (pv 2) (pv 5) set_list))
    (pss_cons (ps_asg (pe_op op_add (pe_ix ix_list (pv 2) (pv 6) (fun _ _ => rfl)) (pv 4)) (pg_sub (pv 2) (pv 6) set_list))
    (pss_cons (ps_if (pt_cmpR op_notN (pe_fld (pv 1) rfl) pe_non (nomark _))
    (pss_cons (ps_set (i := 7) sc_mesh_row.nd rfl (Or.inl rfl) (pe_fld (pe_fld (pv 1) rfl) rfl))
    (pss_one (ps_asg (pe_op op_sub (pe_op op_sub (pe_ix ix_list (pv 2) (pv 7) (fun _ _ => rfl)) (pv 3)) (pv 4)) (pg_sub (pv 2) (pv 7) set_list)))) pss_nil)
    (pss_one (ps_ret (pv 2)))))))))))), ?_⟩
    have arl := hA.lens.ar
    have na := hF.na
    obtain ⟨m', dxm, f, g, hm', hM, hf, hg⟩ := hA.mshs j mp hmp
    rw [hm] at hm'
    cases hm'
    obtain ⟨x, dxf, nf, pf, hx, hX, hxa, _⟩ := hA.whls _ f hf
    obtain ⟨y, dxg, ng, pg, hy, hY, hya, _⟩ := hA.whls _ g hg
    obtain ⟨_, dx1, n1, _, hMf, _⟩ := hA.arbs _ pf hxa
    obtain ⟨_, dx2, n2, _, hMg, _⟩ := hA.arbs _ pg hya
    have hz : meshRowZ s.works m = meshZ s.works.arbors.length x.arbor y.arbor x.teeth y.teeth m.inside m.on := by
      unfold meshRowZ
      rw [wheelAt_of hx, wheelAt_of hy]
    rw [hz] at k
    have lx : x.arbor < s.works.arbors.length := by rw [← arl]; exact lt_of_get hxa
    have ly : y.arbor < s.works.arbors.length := by rw [← arl]; exact lt_of_get hya
    obtain ⟨_, _, hon⟩ := hF.mesh m (List.mem_of_getElem? hm)
    generalize hn : s.works.arbors.length = n at *
    refine q_asgL (xs := zV (List.replicate (n + 1) (0 : Int))) (by
      rw [← flat_zero]
      exact el_rep (el_lst (ea_cons ev_c ea_nil) (Nat.le_of_ble_eq_true rfl)) (fun H1 e1 => ev_is (ev_i (ev_len (ev_fld (ev_var rfl) (T.fd_works_arbors (e1 _ _ hA.w))) (SqL.of (e1 _ _ hA.lists.la))) ev_c) (congrArg V.int (by rw [refV_len, arl]; omega))) (by show 1 * (n + 1) ≤ 100000; omega) (by omega)) fun r H1 nr e1 hr1 => ?_
    refine q_asg (ev_fld (ev_fld (ev_var rfl) (T.fd_mesh_first (e1 _ _ hM))) (T.fd_wheel_teeth (e1 _ _ hX))) fun H2 e2' => ?_
    have e2 := e1.trans e2'
    refine q_asg (ev_fld (ev_fld (ev_var rfl) (T.fd_mesh_second (e2 _ _ hM))) (T.fd_wheel_teeth (e2 _ _ hY))) fun H3 e3' => ?_
    have e3 := e2.trans e3'
    obtain ⟨w', hw'⟩ : ∃ w' : Int, (if m.inside = true then -(y.teeth : Int) else (y.teeth : Int)) = w' := ⟨_, rfl⟩
    refine q_ifAsg (v := .int w') (b := m.inside) (et_B (ev_fld (ev_var rfl) (T.fd_mesh_inside (e3 _ _ hM)))) (fun hb => ?_) (fun hb => ?_) fun H4 e4' => ?_
    · rw [if_pos hb] at hw'
      rw [← hw']
      exact ev_neg (ev_var rfl)
    · rw [if_neg (by rw [hb]; decide)] at hw'
      rw [← hw']
      rfl
    have e4 := e3.trans e4'
    refine q_asg (ev_fld (ev_fld (ev_fld (ev_var rfl) (T.fd_mesh_first (e4 _ _ hM))) (T.fd_wheel_arbor (e4 _ _ hX))) (T.fd_mover_place (e4 _ _ hMf))) fun H5 e5' => ?_
    have e5 := e4.trans e5'
    refine q_asg (ev_fld (ev_fld (ev_fld (ev_var rfl) (T.fd_mesh_second (e5 _ _ hM))) (T.fd_wheel_arbor (e5 _ _ hY))) (T.fd_mover_place (e5 _ _ hMg))) fun H6 e6' => ?_
    have e6 := e5.trans e6'
    have hr6 := (((((e2'.trans e3').trans e4').trans e5').trans e6')) _ _ hr1
    have l0 : (List.replicate (n + 1) (0 : Int)).length = n + 1 := List.length_replicate
    have zl : ∀ q : List Int, (zV q).length = q.length := fun q => by unfold zV; rw [List.length_map]
    refine q_setL (j := x.arbor) (v := .int ((List.replicate (n + 1) (0 : Int)).getD x.arbor 0 + (x.teeth : Int))) hr6 (ev_i (ev_ixL (j := x.arbor) (ev_var rfl) (ev_var rfl) (SqL.of hr6) rfl (zV_getD (by rw [l0]; omega))) (ev_var rfl)) (ev_var rfl) (ev_var rfl) (by rw [zl, l0]; omega) fun H7 e7 => ?_
    rw [zV_set]
    have x7 := Ex.mut (o := .lst (zV ((List.replicate (n + 1) (0 : Int)).set x.arbor ((List.replicate (n + 1) (0 : Int)).getD x.arbor 0 + (x.teeth : Int))))) (e6.trans e7) nr
    have er1 : (List.replicate (n + 1) (0 : Int)).set x.arbor ((List.replicate (n + 1) (0 : Int)).getD x.arbor 0 + (x.teeth : Int)) = addAt (List.replicate (n + 1) (0 : Int)) x.arbor (x.teeth : Int) := rfl
    rw [er1] at x7 ⊢
    have l1 : (addAt (List.replicate (n + 1) (0 : Int)) x.arbor (x.teeth : Int)).length = n + 1 := by rw [addAt_len, l0]
    generalize hr1' : addAt (List.replicate (n + 1) (0 : Int)) x.arbor (x.teeth : Int) = r1 at *
    refine q_setL (j := y.arbor) (v := .int (r1.getD y.arbor 0 + w')) upd_same (ev_i (ev_ixL (j := y.arbor) (ev_var rfl) (ev_var rfl) (SqL.of upd_same) rfl (zV_getD (by rw [l1]; omega))) (ev_var rfl)) (ev_var rfl) (ev_var rfl) (by rw [zl, l1]; omega) fun H8 e8 => ?_
    rw [zV_set]
    have x8 := Ex.mut (o := .lst (zV (r1.set y.arbor (r1.getD y.arbor 0 + w')))) (x7.trans e8) nr
    have er2 : r1.set y.arbor (r1.getD y.arbor 0 + w') = addAt r1 y.arbor w' := rfl
    rw [er2] at x8 ⊢
    have l2 : (addAt r1 y.arbor w').length = n + 1 := by rw [addAt_len, l1]
    have hz2 : meshZ n x.arbor y.arbor x.teeth y.teeth m.inside m.on = match m.on with | some c => (addAt r1 y.arbor w').set c ((addAt r1 y.arbor w').getD c 0 - (x.teeth : Int) - w') | none => addAt r1 y.arbor w' := by
      unfold meshZ
      dsimp only
      rw [hw', hr1']
      all_goals (cases m.on <;> rfl)
    rw [hz2] at k
    generalize addAt r1 y.arbor w' = r2 at *
    refine q_when (b := m.on.isSome) (et_test (ev_is (ev_op (ev_fld (ev_var rfl) (T.fd_mesh_carrier (x8 _ _ hM))) ev_c rv_notN) (congrArg V.bl (by
      cases m.on with
      | none => rfl
      | some c =>
        have : decide (carV L.ar (some c) = V.non) = false := decide_eq_false fun z => by cases z
        rw [this]
        rfl)))) (fun hb H9 e9 => ?_) (fun hb H9 e9 => ?_)
    · obtain ⟨c, hc⟩ := Option.isSome_iff_exists.mp hb
      rw [hc] at k hM
      have hcl := hon c hc
      have hca : c < L.ar.length := by omega
      have hcv : carV L.ar (some c) = .ref L.ar[c] := congrArg V.ref (getD_some (List.getElem?_eq_getElem hca))
      rw [hcv] at hM
      obtain ⟨_, dxc, nc, _, hMc, _⟩ := hA.arbs c L.ar[c] (List.getElem?_eq_getElem hca)
      refine q_asg (ev_fld (ev_fld (ev_var rfl) (T.fd_mesh_carrier ((x8.trans e9) _ _ hM))) (T.fd_mover_place ((x8.trans e9) _ _ hMc))) fun H10 e10 => ?_
      have hr10 := (e9.trans e10) _ _ (upd_same (H := H8) (a := r) (o := .lst (zV r2)))
      refine s_setL (j := c) (v := .int (r2.getD c 0 - (x.teeth : Int) - w')) hr10 (ev_i (ev_i (ev_ixL (j := c) (ev_var rfl) (ev_var rfl) (SqL.of hr10) rfl (zV_getD (by omega))) (ev_var rfl)) (ev_var rfl)) (ev_var rfl) (ev_var rfl) (by rw [zl]; omega) fun H11 e11 => ?_
      rw [zV_set]
      exact s_ret (ev_var rfl) fun H12 e12 => k r H12 nr ((Ex.mut (((x8.trans e9).trans e10).trans e11) nr).trans e12) (e12 _ _ upd_same)
    · have hc : m.on = none := by simpa using hb
      rw [hc] at k
      exact s_ret (ev_var rfl) fun H10 e10 => k r H10 nr ((x8.trans e9).trans e10) ((e9.trans e10) _ _ upd_same)
end
end Cw

/-! The walk through rates: they're set. -/
namespace Cw
open PySem PySem.Spec PyProof.Rows L2 Evl
open Mu07 (State Goes Works Star Q frac whole Bytes locked loose rate? rates begun)
/-- works, the rates of the first arbors -/
def ratedTo (W : Works) (i : Nat) : State := ⟨W, (rates W).take i, 0, [], [], []⟩
theorem rates_len (W : Works) : (rates W).length = W.arbors.length := by simp [rates]
theorem rates_get {W : Works} {i : Nat} (h : i < W.arbors.length) : (rates W)[i]? = some ((rate? W i).getD (whole 0)) := by
  unfold rates
  rw [List.getElem?_map, List.getElem?_range h]
  rfl
section
variable {K : PySem.W.Frag} {mg : Str → Option Value} {T : Txt K mg} {H H' : Hp} {L : Lay}
theorem mover_inj {C C' dx dx' na na' : Addr} {pl pl' : Int} {src src' : V} {st st' ab ab' be be' : Int} (h : HO.ins C dx (moverF na pl src st ab be) = .ins C' dx' (moverF na' pl' src' st' ab' be')) : pl = pl' ∧ src = src' := by
  injection h with _ _ h
  unfold moverF at h
  injection h with _ h
  injection h with h1 h
  injection h with h2 _
  injection h1 with _ h1
  injection h1 with h1
  injection h2 with _ h2
  exact ⟨h1, h2⟩
theorem WAt.setRate {s s' : State} (h : WAt T H L s) {i : Nat} {pa na dx : Addr} {q : Q} (hp : L.ar[i]? = some pa) (ho : H pa = some (.ins T.Mover.C dx (moverF na (i : Int) .non 1 (s.rates.getD i (whole 0)).n ((s.rates.getD i (whole 0)).d : Int))))
    (e : ExB pa H H') (hn : H' pa = some (.ins T.Mover.C dx (moverF na (i : Int) .non 1 q.n (q.d : Int)))) (hw : s'.works = s.works) (hnow : s'.now = s.now) (hset : s'.set = s.set) (hnx : s'.next = s.next) (hdy : s'.days = s.days) (hr : ∀ j, s'.rates.getD j (whole 0) = if j = i then q else s.rates.getD j (whole 0)) : WAt T H' L s' := by
  have t : ∀ k, moverK ≠ k → tagOf (.ins T.Mover.C dx (moverF na (i : Int) .non 1 (s.rates.getD i (whole 0)).n ((s.rates.getD i (whole 0)).d : Int))) ≠ k := fun k hk => by
    show (moverF _ _ _ _ _ _).map _ ≠ k
    rw [moverF_keys]
    exact hk
  have hnd : ∀ {nA : Addr} {nm : Bytes}, NameAt T.td H nA nm → NameAt T.td H' nA nm := fun g => g.kp e ho (t _ (by decide))
  have wl : worksL L s' = worksL L s := by
    unfold worksL
    rw [hw, hnow]
  refine ⟨?_, h.lists.kp e ho (t _ (by decide)), by rw [hw]; exact h.lens, fun j p hj => ?_, by rw [hw]; exact h.whls.kp e ho (t _ (by decide)) (t _ (by decide)), by rw [hw]; exact h.mshs.kp e ho (t _ (by decide)), fun j p hj => ?_, by rw [hw, hset]; exact h.hands.kp e ho (t _ (by decide)) (t _ (by decide)), by rw [hw, hnx]; exact h.strks.kp e ho (t _ (by decide)) (t _ (by decide)), by rw [hw, hdy]; exact h.cals.kp e ho (t _ (by decide)) (t _ (by decide))⟩
  · rw [wl]
    exact e _ _ (tag_ne h.w ho fun z => (t worksK (by decide)) z.symm) h.w
  · obtain ⟨nm, dxj, nj, k1, k2, k3⟩ := h.arbs j p hj
    by_cases hij : j = i
    · subst hij
      rw [hp] at hj
      cases hj
      rw [ho] at k2
      have k2' := Option.some.inj k2
      refine ⟨nm, dx, na, by rw [hw]; exact k1, by rw [hr j, if_pos rfl]; exact hn, hnd ?_⟩
      injection k2' with _ _ k2'
      unfold moverF at k2'
      injection k2' with k2' _
      injection k2' with _ k2'
      injection k2' with k2'
      rw [k2']
      exact k3
    · refine ⟨nm, dxj, nj, by rw [hw]; exact k1, ?_, hnd k3⟩
      rw [hr j, if_neg hij]
      refine e _ _ (fun z => ?_) k2
      rw [z, ho] at k2
      have := (mover_inj (Option.some.inj k2)).1
      omega
  · obtain ⟨x, dxj, nj, q', k1, k2, k3, k4⟩ := h.stars j p hj
    refine ⟨x, dxj, nj, q', by rw [hw]; exact k1, e _ _ (fun z => ?_) k2, k3, hnd k4⟩
    rw [z, ho] at k2
    have := (mover_inj (Option.some.inj k2)).2
    cases this
/-- the same works in another state, so far as it shows -/
theorem WAt.same {s s' : State} (h : WAt T H L s) (hw : s'.works = s.works) (hnow : s'.now = s.now) (hr : ∀ j, s'.rates.getD j (whole 0) = s.rates.getD j (whole 0)) (hset : ∀ j, s'.set.getD j 0 = s.set.getD j 0) (hnx : ∀ j, s'.next.getD j 0 = s.next.getD j 0) (hdy : ∀ j, s'.days.getD j 0 = s.days.getD j 0) : WAt T H L s' := by
  have wl : worksL L s' = worksL L s := by
    unfold worksL
    rw [hw, hnow]
  refine ⟨by rw [wl]; exact h.w, h.lists, by rw [hw]; exact h.lens, fun j p hj => ?_, by rw [hw]; exact h.whls, by rw [hw]; exact h.mshs, by rw [hw]; exact h.stars, fun j p hj => ?_, fun j p hj => ?_, fun j p hj => ?_⟩
  · rw [hw, hr j]
    exact h.arbs j p hj
  · rw [hw, hset j]
    exact h.hands j p hj
  · rw [hw, hnx j]
    exact h.strks j p hj
  · rw [hw, hdy j]
    exact h.cals j p hj
end
/-- a name gets what a call gives: the call's promise as it stands -/
theorem q_asgC {σ : L2.St} {H : Hp} {D : Ends} {sp : Sp} {dvs vs : List V} {E : XK} {ta : TA} {tz : TS} {i : Nat} (h : EvA ta σ H vs) (k : ∀ H1, Ex H H1 → sp (vs ++ dvs) H1 (fun v H2 => tz D (σ.set i (some v)) H2) E) : tSeq (tAsg (tCall sp dvs E ta) (gName i)) tz D σ H := h H (Ex.refl H) _ k
theorem zeros_getD {α : Type} (l : List α) (j : Nat) : (l.map fun _ => (0 : Int)).getD j 0 = 0 := by
  rw [List.getD_eq_getElem?_getD, List.getElem?_map]
  cases l[j]? <;> rfl
theorem zeros_getDN {α : Type} (l : List α) (j : Nat) : (l.map fun _ => (0 : Nat)).getD j 0 = 0 := by
  rw [List.getD_eq_getElem?_getD, List.getElem?_map]
  cases l[j]? <;> rfl
theorem loose_some {W : Works} {i : Nat} (hi : i < W.arbors.length) (h : rate? W i = none) (hb : ∀ j, j < i → (rate? W j).isSome = true) : loose W = some i := by
  unfold loose
  rw [List.find?_range_eq_some]
  refine ⟨by rw [h]; rfl, by simpa using hi, fun j hj => ?_⟩
  have := hb j hj
  cases hh : rate? W j with
  | none => rw [hh] at this; cases this
  | some q => rfl
theorem loose_none {W : Works} (hb : ∀ j, j < W.arbors.length → (rate? W j).isSome = true) : loose W = none := by
  unfold loose
  rw [List.find?_eq_none]
  intro j hj
  have := hb j (by simpa using hj)
  cases hh : rate? W j with
  | none => rw [hh] at this; cases this
  | some q => simp
section
variable {P : Program} {w : World} {K : PySem.W.Frag} {mg : Str → Option Value} {base : Heap} (T : Txt K mg)
def spRates : Sp := fun vs H Q _ => ∃ (L : Lay) (W : Works), vs = [.ref L.a] ∧ WAt T H L (raw W) ∧ Wf W ∧ W.drive.isSome = true ∧
  (locked W = true → ∀ p H', H p = none → Ex H H' → H' p = some (.lst [.int (-3)]) → Q (.ref p) H') ∧
  (locked W = false → ∀ i, loose W = some i → ∀ p H', H p = none → KeptL L.ar H H' → H' p = some (.lst [.int (-4), .int (i : Nat)]) → Q (.ref p) H') ∧
  (locked W = false → loose W = none → (∀ i, RateOk ((begun W).rates.getD i (whole 0))) → ∀ H', KeptL L.ar H H' → WAt T H' L (begun W) → Q .non H')
theorem ok_set_rates : FnOk P w K mg base CX0 5 T.set_rates.f T.set_rates.fd ["works"] (spRates T) := by
  refine T.set_rates.F.ok sc_set_rates (fun vs H Q E h => ?_) (fun cdv A outer s H vs Q E hr h => ?_)
  · obtain ⟨L, W, rfl, _⟩ := h
    rfl
  · obtain ⟨L, W, rfl, hA, hF, hd, k1, k2, k3⟩ := h
    refine ⟨_, (pss_cons (ps_set (i := 1) sc_set_rates.nd rfl (Or.inl rfl) (pe_lst (pa_cons (pe_call (ok_drive_row T) (hr.mono (by decide)) (by rfl) T.drive_row.g T.drive_row.F.kp T.drive_row.b .nil pass0 (pa_cons (pv 0) pa_nil)) pa_nil)))
    (pss_cut (ps_for PassesOwn.never rfl (pi_list (pe_fld (pv 0) rfl)) (pg_name (i := 2) sc_set_rates.nd rfl (Or.inl rfl))
    (pss_one (ps_expr (pe_bm PySem.F.plainAttrs_list PySem.F.slot_list_append PySem.F.type_list_append mt_append (pv 1) (pa_cons (pe_call (ok_mesh_row T) (hr.mono (by decide)) (by rfl) T.mesh_row.g T.mesh_row.F.kp T.mesh_row.b .nil pass0 (pa_cons (pv 0) (pa_cons (pv 2) pa_nil))) pa_nil)))))
    (pss_cons (ps_set (i := 1) sc_set_rates.nd rfl (Or.inl rfl) (pe_call (ok_reduced T) (hr.mono (by decide)) (by rfl) T.reduced.g T.reduced.F.kp T.reduced.b .nil pass0 (pa_cons (pv 1) (pa_cons (pe_callB call_len_seq (by rfl) T.b_len (by decide +kernel) (pa_cons (pe_fld (pv 0) rfl) pa_nil)) pa_nil))))
    (pss_cons (ps_if (pt_val (pe_call (ok_are_locked T) (hr.mono (by decide)) (by rfl) T.are_locked.g T.are_locked.F.kp T.are_locked.b .nil pass0 (pa_cons (pv 1) pa_nil)))
    (pss_one (ps_ret (pe_lst (pa_cons (pe_un un_neg pe_int) pa_nil)))) pss_nil)
    (pss_cons (ps_for PassesOwn.never rfl (pi_list (pe_fld (pv 0) rfl)) (pg_name (i := 3) sc_set_rates.nd rfl (Or.inl rfl))
    (pss_cons (ps_set (i := 4) sc_set_rates.nd rfl (Or.inl rfl) (pe_call (ok_rate_in T) (hr.mono (by decide)) (by rfl) T.rate_in.g T.rate_in.F.kp T.rate_in.b .nil pass0 (pa_cons (pv 1) (pa_cons (pe_fld (pv 3) rfl) pa_nil))))
    (pss_cons (ps_if (pt_cmpR op_isN (pv 4) pe_non (nomark _))
    (pss_one (ps_ret (pe_lst (pa_cons (pe_un un_neg pe_int) (pa_cons (pe_fld (pv 3) rfl) pa_nil))))) pss_nil)
    (pss_cons (ps_fld (pv 3) (pe_ix ix_tup (pv 4) pe_int (fun _ _ => rfl)) rfl)
    (pss_one (ps_fld (pv 3) (pe_ix ix_tup (pv 4) pe_int (fun _ _ => rfl)) rfl))))))
    (pss_one (ps_ret pe_non))))))), ?_⟩
    obtain ⟨⟨di, ds⟩, hdr⟩ : ∃ d, W.drive = some d := Option.isSome_iff_exists.mp hd
    obtain ⟨hlock, hrate⟩ := hF.main hdr
    have hRI := hF.rows_in hdr
    have small := red_small hRI.n12 hRI.len hRI.sm (Nat.le_refl _)
    have arl : L.ar.length = W.arbors.length := hA.lens.ar
    have mel : L.me.length = W.meshes.length := hA.lens.me
    have na := hF.na
    have nm := hF.nm
    obtain ⟨_, _, rlen, _, _⟩ := red_all hRI.len W.arbors.length (Nat.le_refl _)
    refine q_asgL1 (xs := zV (driveRowZ W)) (el_call (ea_cons (ev_var rfl) ea_nil) (sl_of fun H1 e1 => ⟨L, raw W, rfl, hA.ex e1, hF, hd, rfl⟩)) fun r0 l H1 nr0 nl hlr e1 hr0 hl => ?_
    have hA1 := hA.ex e1
    refine q_cut (M := fun σ' H' => ∃ (o : Option V) (qs : List Addr), σ' = [some (.ref L.a), some (.ref l), o, none, none] ∧ Ex H H' ∧ H' l = some (.lst (refV qs)) ∧ RowsAt H' qs (rowsZ W)) ?_ fun σ' H2 hM => ?_
    · refine s_forLn (ev_fld (ev_var rfl) (T.fd_works_meshes hA1.w)) (SqL.of hA1.lists.lm) (fun i σ' H' => ∃ (o : Option V) (qs : List Addr), σ' = [some (.ref L.a), some (.ref l), o, none, none] ∧ Ex H H' ∧ l ∉ qs ∧ (∀ q ∈ qs, H q = none) ∧ H' l = some (.lst (refV qs)) ∧ RowsAt H' qs (driveRowZ W :: (W.meshes.take i).map (meshRowZ W)))
        (fun H2 e2 => ⟨none, [r0], rfl, e1.trans e2, by simpa using hlr, fun q hq => by
          have : q = r0 := by simpa using hq
          rw [this]
          exact nr0, e2 _ _ hl, ⟨rfl, fun i a r ha hr => by
          cases i with
          | zero =>
            cases ha
            cases hr
            exact e2 _ _ hr0
          | succ n => simp at ha⟩⟩) (fun i σ' H' hi hP => ?_) (fun i x σ' H' hi hP => ?_) (fun σ' H' hP => ?_)
      · obtain ⟨o, qs, rfl, e, _⟩ := hP
        exact SqL.of (e _ _ hA.lists.lm)
      · obtain ⟨o, qs, rfl, e, hnl, hq0, hl', hR⟩ := hP
        obtain ⟨mp, hmp, rfl⟩ := refV_at hi
        have hi' : i < W.meshes.length := by
          rw [← mel]
          exact lt_of_get hmp
        have hm : W.meshes[i]? = some W.meshes[i] := List.getElem?_eq_getElem hi'
        have hqn : qs.length = i + 1 := by
          rw [hR.len, List.length_cons, List.length_map, List.length_take]
          omega
        refine s_appL hl' (ev_var rfl) (el_call (ea_cons (ev_var rfl) (ea_cons (ev_var rfl) ea_nil)) (sl_of fun H2 e2 => ⟨L, raw W, i, mp, W.meshes[i], rfl, hA.ex (e.trans e2), hF, hmp, hm, rfl⟩)) (by rw [refV_len, hqn]; omega) fun p H2 np e2 hp => ?_
        have pl : p ≠ l := fun z => by rw [z, hl'] at np; cases np
        have hnp : H p = none := fresh_back e np
        refine ⟨some (.ref mp), qs ++ [p], rfl, Ex.mut (e.trans e2) nl, ?_, ?_, grew, ?_⟩
        · intro z
          rcases List.mem_append.mp z with z | z
          · exact hnl z
          · have : l = p := by simpa using z
            exact pl this.symm
        · intro q hq
          rcases List.mem_append.mp hq with hq | hq
          · exact hq0 q hq
          · have : q = p := by simpa using hq
            rw [this]
            exact hnp
        · rw [take_more hm, List.map_append]
          have eb := ExB.upd l H2 (.lst (refV qs ++ [.ref p]))
          have := ((hR.ex e2).but hnl eb).snoc (a := p) (r := meshRowZ W W.meshes[i]) (by rw [upd_ne pl]; exact hp)
          exact this
      · obtain ⟨o, qs, rfl, e, hnl, _, hl', hR⟩ := hP
        rw [refV_len, mel, List.take_length] at hR
        exact ⟨o, qs, rfl, e, hl', hR⟩
    obtain ⟨o, qs, rfl, e2, hl2, hR2⟩ := hM
    have hA2 := hA.ex e2
    -- reduced
    refine q_asgC (ea_cons (ev_var rfl) (ea_cons (ev_is (ev_len (ev_fld (ev_var rfl) (T.fd_works_arbors hA2.w)) (SqL.of hA2.lists.la)) (congrArg V.int (by rw [refV_len]; show ((L.ar.length : Nat) : Int) = ((W.arbors.length : Nat) : Int); rw [arl]))) ea_nil)) fun H3 e3' => ⟨l, qs, rowsZ W, W.arbors.length, rfl, e3' _ _ hl2, hR2.ex e3', hRI, fun l2 q2 H4 e4' hl4 hR4 => ?_⟩
    have e4 := (e2.trans e3').trans e4'
    have rowsOk : ∀ r ∈ reduced (rowsZ W) W.arbors.length, 1 ≤ r.length ∧ r.length ≤ 1000 ∧ Row460 r := fun r hr => by
      have hl := rlen r hr
      exact ⟨by omega, by omega, fun x hx => small r hr x hx⟩
    refine q_when (b := locked W) (et_is (et_B (ev_call (ea_cons (ev_var rfl) ea_nil) (sv_of fun H5 e5 => ⟨l2, q2, _, rfl, e5 _ _ hl4, hR4.ex e5, fun r hr => ⟨(rowsOk r hr).1, (rowsOk r hr).2.1⟩, rfl⟩))) hlock) (fun hb H5 e5 => ?_) (fun hb H5 e5 => ?_)
    · exact s_retL (el_lst (ea_cons (ev_neg ev_c) ea_nil) (Nat.le_of_ble_eq_true rfl)) fun p H6 np e6 hp => k1 hb p H6 (fresh_back (e4.trans e5) np) ((e4.trans e5).trans e6) hp
    have e5' := e4.trans e5
    have hA5 := hA.ex e5'
    have rt := hrate hb
    refine q_forLn (ev_fld (ev_var rfl) (T.fd_works_arbors hA5.w)) (SqL.of hA5.lists.la) (fun i σ' H' => ∃ (o2 o3 o4 : Option V), σ' = [some (.ref L.a), some (.ref l2), o2, o3, o4] ∧ KeptL L.ar H5 H' ∧ WAt T H' L (ratedTo W i) ∧ (∀ j, j < i → (rate? W j).isSome = true))
      (fun H6 e6 => ⟨o, none, none, rfl, KeptL.of e6, hA5.ex e6, fun j hj => by omega⟩) (fun i σ' H' hi hP => ?_) (fun i x σ' H' hi hP => ?_) (fun σ' H' hP => ?_)
    · obtain ⟨o2, o3, o4, rfl, hK, hA', hall⟩ := hP
      exact SqL.of hA'.lists.la
    · obtain ⟨o2, o3, o4, rfl, hK, hA', hall⟩ := hP
      obtain ⟨pa, hpa, rfl⟩ := refV_at hi
      have hi' : i < W.arbors.length := by
        rw [← arl]
        exact lt_of_get hpa
      obtain ⟨nm, dx, nA, _, hm, _⟩ := hA'.arbs i pa hpa
      -- the rows stand: they're no arbors
      have l2ar : l2 ∉ L.ar := fun z => by
        obtain ⟨j, hj, e⟩ := List.mem_iff_getElem.mp z
        obtain ⟨_, _, _, _, h2, _⟩ := hA5.arbs j l2 (by rw [← e]; exact List.getElem?_eq_getElem hj)
        rw [e5 _ _ hl4] at h2
        cases h2
      have hl' := hK l2 _ (e5 _ _ hl4) l2ar
      have hR' : RowsAt H' q2 (reduced (rowsZ W) W.arbors.length) := ⟨hR4.len, fun j a r ha hr => by
        have h5 := e5 _ _ (hR4.at_ j a r ha hr)
        refine hK a _ h5 fun z => ?_
        obtain ⟨j, hj, e⟩ := List.mem_iff_getElem.mp z
        obtain ⟨_, _, _, _, h2, _⟩ := hA5.arbs j a (by rw [← e]; exact List.getElem?_eq_getElem hj)
        rw [h5] at h2
        cases h2⟩
      have xK : KeptL L.ar H H5 := KeptL.of e5'
      refine q_asgC (ea_cons (ev_var rfl) (ea_cons (ev_fld (ev_var rfl) (T.fd_mover_place hm)) ea_nil)) fun H6 e6 => ⟨l2, q2, _, i, rfl, e6 _ _ hl', hR'.ex e6, rowsOk, fun hn H7 e7 => ?_, fun q hq t H7 e7 ht => ?_⟩
      · rw [rt i hi'] at hn
        have hlo := loose_some hi' hn hall
        refine q_when (b := true) (et_test (ev_op (ev_var rfl) ev_c rv_isN)) (fun _ H8 e8 => ?_) (fun z => by cases z)
        refine s_retL (el_lst (ea_cons (ev_neg ev_c) (ea_cons (ev_fld (ev_var rfl) (T.fd_mover_place (((e6.trans e7).trans e8) _ _ hm))) ea_nil)) (Nat.le_of_ble_eq_true rfl)) fun p H9 np e9 hp => k2 hb i hlo p H9 (by
          cases hh : H p with
          | none => rfl
          | some o =>
            by_cases m : p ∈ L.ar
            · obtain ⟨j, hj, e⟩ := List.mem_iff_getElem.mp m
              obtain ⟨_, _, _, _, h2, _⟩ := hA'.arbs j p (by rw [← e]; exact List.getElem?_eq_getElem hj)
              rw [((e6.trans e7).trans e8) _ _ h2] at np
              cases np
            · have := (xK.trans hK) p o hh m
              rw [((e6.trans e7).trans e8) _ _ this] at np
              cases np) ((xK.trans hK).trans (KeptL.of (((e6.trans e7).trans e8).trans e9))) hp
      · have hq' := hq
        rw [rt i hi'] at hq'
        refine q_when (b := false) (et_test (ev_op (ev_var rfl) ev_c rv_isN)) (fun z => by cases z) (fun _ H8 e8 => ?_)
        have e68 := (e6.trans e7).trans e8
        have ht8 := e8 _ _ ht
        have hA8 := hA'.ex e68
        have hm8 := e68 _ _ hm
        refine q_stB hm8 (ExB.refl pa H8) (ev_ixT (j := 0) (v := .int q.n) (ev_var rfl) ev_c (SqT.of ht8) rfl rfl) (ev_var rfl) T.Mover.cl T.n_Mover_above moverF_len fun H9 h9 b9 => ?_
        rw [moverF_put_above] at h9
        have tpa : t ≠ pa := fun z => by
          rw [z, hm8] at ht8
          cases ht8
        refine s_stB h9 b9 (ev_ixT (j := 1) (v := .int (q.d : Int)) (ev_var rfl) ev_c (SqT.of (b9 _ _ tpa ht8)) rfl rfl) (ev_var rfl) T.Mover.cl T.n_Mover_below moverF_len fun H10 h10 b10 => ?_
        rw [moverF_put_below] at h10
        refine ⟨o2, _, _, rfl, hK.trans ((KeptL.of e68).trans (KeptL.ofB (List.mem_of_getElem? hpa) b10)), ?_, fun j hj => ?_⟩
        · refine hA8.setRate (q := q) hpa hm8 b10 h10 rfl rfl rfl rfl rfl fun j => ?_
          show ((rates W).take (i + 1)).getD j (whole 0) = if j = i then q else ((rates W).take i).getD j (whole 0)
          rw [take_more (rates_get hi')]
          have tl : ((rates W).take i).length = i := by
            rw [List.length_take, rates_len]
            omega
          rw [List.getD_eq_getElem?_getD, List.getD_eq_getElem?_getD]
          by_cases hji : j < i
          · rw [if_neg (by omega), List.getElem?_append_left (by omega)]
          · by_cases hj2 : j = i
            · subst hj2
              rw [if_pos rfl, List.getElem?_append_right (by omega), tl, Nat.sub_self, hq']
              rfl
            · rw [if_neg hj2, List.getElem?_append_right (by omega), tl, List.getElem?_eq_none (by simp; omega), List.getElem?_eq_none (by omega)]
        · by_cases hji : j < i
          · exact hall j hji
          · have : j = i := by omega
            rw [this, hq']
            rfl
    · obtain ⟨o2, o3, o4, rfl, hK, hA', hall⟩ := hP
      rw [refV_len, arl] at hA' hall
      have hlo := loose_none hall
      have tk : (rates W).take W.arbors.length = rates W := by
        rw [← rates_len W, List.take_length]
      refine s_ret ev_c fun H6 e6 => k3 hb hlo (fun i => ?_) H6 (((KeptL.of e5').trans hK).trans (KeptL.of e6)) ?_
      · show RateOk ((rates W).getD i (whole 0))
        rw [List.getD_eq_getElem?_getD]
        by_cases hi : i < W.arbors.length
        · rw [rates_get hi]
          have hs := hall i hi
          obtain ⟨q, hq⟩ := Option.isSome_iff_exists.mp hs
          rw [hq]
          rw [← rt i hi] at hq
          exact rateIn_ok (fun r hr => (rowsOk r hr).2.2) hq
        · rw [List.getElem?_eq_none (by rw [rates_len]; omega)]
          exact rate_zero
      · refine (hA'.ex e6).same rfl rfl (fun j => ?_) (fun j => ?_) (fun j => ?_) (fun j => ?_)
        · show (rates W).getD j (whole 0) = ((rates W).take W.arbors.length).getD j (whole 0)
          rw [tk]
        · exact zeros_getD _ _
        · exact zeros_getDN _ _
        · exact zeros_getD _ _
end
end Cw

/-! Strikes, in plain Lean: what the sorted strikes are. -/
namespace Cw
open Mu07 (State Goes Q whole reaches turns struck strikes ordered offs)
/-! ### later turns are reached later -/
theorem down_mono {s : State} : ∀ {k : Nat} {g : Goes} {r r' : Nat}, r ≤ r' → (downTo s k g r).2 ≤ (downTo s k g r').2
  | 0, _, _, _, h => h
  | k + 1, .arbor i, _, _, h => h
  | k + 1, .star i, r, r', h => by
    show (match s.works.stars[i]? with | some x => downTo s k x.by_ (r * x.steps) | none => (0, r)).2 ≤ (match s.works.stars[i]? with | some x => downTo s k x.by_ (r' * x.steps) | none => (0, r')).2
    cases s.works.stars[i]? with
    | none => exact h
    | some x => exact down_mono (Nat.mul_le_mul_right _ h)
theorem reach_mono {s : State} {k : Nat} {g : Goes} {r r' : Nat} (hd : Deep s k g) (h : r ≤ r') : (reaches s k g r).getD 0 ≤ (reaches s k g r').getD 0 := by
  rw [reach_eq r hd, reach_eq r' hd, down_same r' r]
  generalize hq : s.rates.getD (downTo s k g r).1 (whole 0) = q
  by_cases hn : q.n ≤ 0
  · rw [if_pos hn, if_pos hn]
    exact Nat.le_refl _
  · rw [if_neg hn, if_neg hn]
    show (-((-((downTo s k g r).2 : Int) * (q.d : Int)) / q.n)).toNat ≤ (-((-((downTo s k g r').2 : Int) * (q.d : Int)) / q.n)).toNat
    have m := down_mono (s := s) (k := k) (g := g) h
    have m2 : -((downTo s k g r').2 : Int) * (q.d : Int) ≤ -((downTo s k g r).2 : Int) * (q.d : Int) := Int.mul_le_mul_of_nonneg_right (by omega) (by omega)
    have := Int.ediv_le_ediv (c := q.n) (by omega) m2
    omega
theorem seconds_srt {s : State} {g : Goes} {a b : Nat} (hd : Deep s 8 g) (hab : a ≤ b) : (secondsOf s g a b).Pairwise (· ≤ ·) := by
  unfold secondsOf
  rw [List.pairwise_map]
  refine List.pairwise_lt_range.imp fun {i j} hij => ?_
  refine reach_mono hd ?_
  omega
/-! ### what a change of next and now leaves -/
def SameMo (s s' : State) : Prop := s'.works = s.works ∧ s'.rates = s.rates ∧ s'.set = s.set
theorem turns_same {s s' : State} (h : SameMo s s') : ∀ (k : Nat) (g : Goes) (t : Nat), turns s' k g t = turns s k g t
  | 0, _, _ => rfl
  | k + 1, .arbor i, t => by
    show ((s'.rates.getD i (whole 0)).times (whole (t : Int))).trunc = ((s.rates.getD i (whole 0)).times (whole (t : Int))).trunc
    rw [h.2.1]
  | k + 1, .star i, t => by
    show (match s'.works.stars[i]? with | some x => Int.tdiv (turns s' k x.by_ t) (x.steps : Int) | none => 0) = (match s.works.stars[i]? with | some x => Int.tdiv (turns s k x.by_ t) (x.steps : Int) | none => 0)
    rw [h.1]
    cases s.works.stars[i]? with
    | none => rfl
    | some x =>
      dsimp only
      rw [turns_same h k x.by_ t]
theorem shows_same {s s' : State} (h : SameMo s s') (i t : Nat) : Mu07.shows s' i t = Mu07.shows s i t := by
  have tu : ∀ g, Mu07.turned s' g t = Mu07.turned s g t := fun g => by
    cases g with
    | arbor i =>
      show (s'.rates.getD i (whole 0)).times (whole (t : Int)) = (s.rates.getD i (whole 0)).times (whole (t : Int))
      rw [h.2.1]
    | star i =>
      show (match s'.works.stars[i]? with | some x => Mu07.frac (turns s' 8 x.by_ t) (x.steps : Int) | none => whole 0) = (match s.works.stars[i]? with | some x => Mu07.frac (turns s 8 x.by_ t) (x.steps : Int) | none => whole 0)
      rw [h.1]
      cases s.works.stars[i]? with
      | none => rfl
      | some x =>
        dsimp only
        rw [turns_same h]
  unfold Mu07.shows
  rw [h.1, h.2.2]
  cases s.works.hands[i]? with
  | none => rfl
  | some x =>
    dsimp only
    rw [tu]
theorem struck_same {s s' : State} (h : SameMo s s') (i n t : Nat) : struck s' i n t = struck s i n t := by
  unfold struck
  rw [h.1]
  cases s.works.strikers[i]? with
  | none => rfl
  | some x =>
    dsimp only
    cases x.hand with
    | none => rfl
    | some j =>
      dsimp only
      rw [shows_same h]
/-! ### one striker's strikes -/
def RunI (s : State) (i : Nat) : Nat → List (Nat × Nat × Nat) → Nat → Prop
  | n, [], fin => n = fin
  | n, y :: r, fin => y.2.1 = i ∧ (struck s i n y.1).1 = y.2.2 ∧ RunI s i (struck s i n y.1).2 r fin
def strikesL (s : State) (i nx : Nat) (zs : List Nat) : List (Nat × Nat) × Nat := zs.foldl (fun a z => (a.1 ++ [(z, (struck s i a.2 z).1)], (struck s i a.2 z).2)) ([], nx)
theorem strikesL_gen (s : State) (i : Nat) : ∀ (zs : List Nat) (acc : List (Nat × Nat)) (nx : Nat), zs.foldl (fun a z => (a.1 ++ [(z, (struck s i a.2 z).1)], (struck s i a.2 z).2)) (acc, nx) = (acc ++ (strikesL s i nx zs).1, (strikesL s i nx zs).2)
  | [], acc, nx => by simp [strikesL]
  | z :: r, acc, nx => by
    unfold strikesL
    rw [List.foldl_cons, List.foldl_cons, strikesL_gen s i r, strikesL_gen s i r ([] ++ _)]
    simp
theorem strikesL_cons (s : State) (i nx z : Nat) (r : List Nat) : strikesL s i nx (z :: r) = ((z, (struck s i nx z).1) :: (strikesL s i (struck s i nx z).2 r).1, (strikesL s i (struck s i nx z).2 r).2) := by
  have := strikesL_gen s i r ([] ++ [(z, (struck s i nx z).1)]) (struck s i nx z).2
  unfold strikesL
  rw [List.foldl_cons]
  rw [this]
  rfl
theorem strikesL_run (s : State) (i : Nat) : ∀ (zs : List Nat) (nx : Nat), RunI s i nx ((strikesL s i nx zs).1.map fun y => (y.1, i, y.2)) (strikesL s i nx zs).2 ∧ (strikesL s i nx zs).1.map (·.1) = zs
  | [], nx => ⟨rfl, rfl⟩
  | z :: r, nx => by
    obtain ⟨h1, h2⟩ := strikesL_run s i r (struck s i nx z).2
    rw [strikesL_cons]
    exact ⟨⟨rfl, rfl, h1⟩, by rw [List.map_cons, h2]⟩
theorem strikes_is {s : State} {i t : Nat} {x : Mu07.Striker} (hx : s.works.strikers[i]? = some x) : strikes s i t = strikesL s i (s.next.getD i 0) (secondsOf s x.by_ s.now t) := by
  unfold strikes strikesL secondsOf
  rw [hx]
  dsimp only
  rw [List.foldl_map]
  have : offs s i t = offsOf s x.by_ s.now t := by
    unfold offs offsOf
    rw [hx]
    rfl
  rw [this]
  rfl
theorem offs_is {s : State} {i t : Nat} {x : Mu07.Striker} (hx : s.works.strikers[i]? = some x) : offs s i t = offsOf s x.by_ s.now t := by
  unfold offs offsOf
  rw [hx]
  rfl
theorem strikes_fst {s : State} {i t : Nat} {x : Mu07.Striker} (hx : s.works.strikers[i]? = some x) : (strikes s i t).1.map (·.1) = secondsOf s x.by_ s.now t := by
  rw [strikes_is hx]
  exact (strikesL_run s i _ _).2
/-! ### all of them, in order -/
def le3 (a b : Nat × Nat × Nat) : Bool := decide (a.1 < b.1 ∨ (a.1 = b.1 ∧ a.2.1 ≤ b.2.1))
theorem ordered_is (l : List (Nat × Nat × Nat)) : ordered l = l.mergeSort le3 := rfl
theorem le3_tr (a b c : Nat × Nat × Nat) (h1 : le3 a b = true) (h2 : le3 b c = true) : le3 a c = true := by
  have h1 := of_decide_eq_true h1
  have h2 := of_decide_eq_true h2
  exact decide_eq_true (by omega)
theorem le3_tot (a b : Nat × Nat × Nat) : (le3 a b || le3 b a) = true := by
  rw [Bool.or_eq_true]
  by_cases h : a.1 < b.1 ∨ (a.1 = b.1 ∧ a.2.1 ≤ b.2.1)
  · exact Or.inl (decide_eq_true h)
  · exact Or.inr (decide_eq_true (by omega))
def allOf (s : State) (t : Nat) : List (Nat × Nat × Nat) := (List.range s.works.strikers.length).flatMap fun (i : Nat) => ((strikes s i t).1).map fun (y : Nat × Nat) => (y.1, i, y.2)
theorem filter_place {f : Nat → List (Nat × Nat)} {n i : Nat} (hi : i < n) : ((List.range n).flatMap fun (i : Nat) => (f i).map fun (y : Nat × Nat) => (y.1, i, y.2)).filter (fun y => y.2.1 == i) = (f i).map fun (y : Nat × Nat) => (y.1, i, y.2) := by
  have own : ∀ j, ((f j).map fun (y : Nat × Nat) => (y.1, j, y.2)).filter (fun y => y.2.1 == i) = if j = i then (f j).map fun (y : Nat × Nat) => (y.1, j, y.2) else [] := fun j => by
    by_cases h : j = i
    · rw [if_pos h]
      refine List.filter_eq_self.mpr fun y hy => ?_
      obtain ⟨z, _, rfl⟩ := List.mem_map.mp hy
      simpa using h
    · rw [if_neg h]
      refine List.filter_eq_nil_iff.mpr fun y hy => ?_
      obtain ⟨z, _, rfl⟩ := List.mem_map.mp hy
      simpa using h
  induction n with
  | zero => omega
  | succ m ih =>
    rw [List.range_succ, List.flatMap_append, List.filter_append]
    simp only [List.flatMap_cons, List.flatMap_nil, List.append_nil]
    rw [own]
    by_cases h : i < m
    · rw [ih h, if_neg (by omega), List.append_nil]
    · have e : i = m := by omega
      subst e
      rw [if_pos rfl]
      have : ((List.range i).flatMap fun (i : Nat) => (f i).map fun (y : Nat × Nat) => (y.1, i, y.2)).filter (fun y => y.2.1 == i) = [] := by
        refine List.filter_eq_nil_iff.mpr fun y hy => ?_
        obtain ⟨j, hj, hy⟩ := List.mem_flatMap.mp hy
        obtain ⟨z, _, rfl⟩ := List.mem_map.mp hy
        have : j < i := by simpa using hj
        simp
        omega
      rw [this, List.nil_append]
theorem place_lt {s : State} {t : Nat} : ∀ y ∈ allOf s t, y.2.1 < s.works.strikers.length := fun y hy => by
  obtain ⟨j, hj, hy⟩ := List.mem_flatMap.mp hy
  obtain ⟨z, _, rfl⟩ := List.mem_map.mp hy
  simpa using hj
/-- of each striker the sorted strikes are its own, in their order -/
theorem ordered_of {s : State} {t i : Nat} (hn : s.now ≤ t) (hi : i < s.works.strikers.length) (hd : ∀ x, s.works.strikers[i]? = some x → Deep s 8 x.by_) : (ordered (allOf s t)).filter (fun y => y.2.1 == i) = (strikes s i t).1.map fun (y : Nat × Nat) => (y.1, i, y.2) := by
  have hx : s.works.strikers[i]? = some s.works.strikers[i] := List.getElem?_eq_getElem hi
  have fl : (allOf s t).filter (fun y => y.2.1 == i) = (strikes s i t).1.map fun (y : Nat × Nat) => (y.1, i, y.2) := filter_place (f := fun i => (strikes s i t).1) hi
  have srt : ((strikes s i t).1.map fun (y : Nat × Nat) => (y.1, i, y.2)).Pairwise (fun a b => le3 a b = true) := by
    have h1 := seconds_srt (g := s.works.strikers[i].by_) (hd _ hx) hn
    rw [← strikes_fst hx] at h1
    rw [List.pairwise_map] at h1 ⊢
    refine h1.imp fun {a b} hab => decide_eq_true ?_
    dsimp only
    omega
  rw [← fl] at srt ⊢
  have sub : ((allOf s t).filter (fun y => y.2.1 == i)).Sublist (ordered (allOf s t)) := List.sublist_mergeSort le3_tr le3_tot srt List.filter_sublist
  have sub2 := sub.filter (fun y => y.2.1 == i)
  rw [List.filter_filter] at sub2
  simp only [Bool.and_self] at sub2
  refine (sub2.eq_of_length ?_).symm
  exact ((List.mergeSort_perm (allOf s t) le3).filter _).length_eq.symm
/-- what remains of a run -/
theorem ordered_run {s : State} {t i : Nat} (hn : s.now ≤ t) (hi : i < s.works.strikers.length) (hd : ∀ x, s.works.strikers[i]? = some x → Deep s 8 x.by_) : RunI s i (s.next.getD i 0) ((ordered (allOf s t)).filter (fun y => y.2.1 == i)) (strikes s i t).2 := by
  rw [ordered_of hn hi hd]
  have hx : s.works.strikers[i]? = some s.works.strikers[i] := List.getElem?_eq_getElem hi
  rw [strikes_is hx]
  exact (strikesL_run s i _ _).1
/-! ### the pairs sorted -/
theorem flatMap_cong {α β : Type} : ∀ {l : List α} {f g : α → List β}, (∀ a ∈ l, f a = g a) → l.flatMap f = l.flatMap g
  | [], _, _, _ => rfl
  | a :: l, f, g, h => by
    rw [List.flatMap_cons, List.flatMap_cons, h a (List.mem_cons_self ..), flatMap_cong fun b hb => h b (List.mem_cons_of_mem _ hb)]
def pairsOf (s : State) (t n : Nat) : List (Nat × Nat) := (List.range n).flatMap fun (i : Nat) => match s.works.strikers[i]? with
  | some x => (secondsOf s x.by_ s.now t).map fun z => (z, i)
  | none => []
theorem pairs_is (s : State) (t : Nat) : (allOf s t).map (fun y => (y.1, y.2.1)) = pairsOf s t s.works.strikers.length := by
  unfold allOf pairsOf
  rw [List.map_flatMap]
  refine flatMap_cong fun i hi => ?_
  have hi : i < s.works.strikers.length := by simpa using hi
  have hx : s.works.strikers[i]? = some s.works.strikers[i] := List.getElem?_eq_getElem hi
  rw [hx]
  dsimp only
  rw [← strikes_fst hx, List.map_map, List.map_map]
  rfl
def zz (p : Nat × Nat) : Int × Int := ((p.1 : Int), (p.2 : Int))
theorem zz_inj {a b : Nat × Nat} (h : zz a = zz b) : a = b := by
  unfold zz at h
  injection h with h1 h2
  ext
  · omega
  · omega
/-- sorted pairs of ints are the strikes in order -/
theorem sorted_is {s : State} {t : Nat} {ps : List (Int × Int)} (hs : ps.Pairwise fun x y => SrtO.lexB y x = false) (hp : ps.Perm ((pairsOf s t s.works.strikers.length).map zz)) : ps = (ordered (allOf s t)).map fun y => zz (y.1, y.2.1) := by
  have h1 : (pairsOf s t s.works.strikers.length).map zz = (allOf s t).map fun y => zz (y.1, y.2.1) := by
    rw [← pairs_is, List.map_map]
    rfl
  rw [h1] at hp
  have hp2 : ps.Perm ((ordered (allOf s t)).map fun y => zz (y.1, y.2.1)) := hp.trans ((List.mergeSort_perm (allOf s t) le3).map _).symm
  have hs2 : ((ordered (allOf s t)).map fun y => zz (y.1, y.2.1)).Pairwise fun x y => SrtO.lexB y x = false := by
    rw [List.pairwise_map]
    refine (List.pairwise_mergeSort le3_tr le3_tot (allOf s t)).imp fun {a b} hab => SrtO.lexB_no.mpr ?_
    have hab := of_decide_eq_true hab
    unfold zz
    dsimp only
    omega
  refine hp2.eq_of_pairwise (le := fun x y => SrtO.lexB y x = false) (fun a b _ _ h1 h2 => ?_) hs hs2
  have h1 := SrtO.lexB_no.mp h1
  have h2 := SrtO.lexB_no.mp h2
  ext
  · omega
  · omega
/-- how many -/
def totalTo (s : State) (t n : Nat) : Nat := ((List.range n).map fun (i : Nat) => offs s i t).foldl (· + ·) 0
theorem total_succ (s : State) (t n : Nat) : totalTo s t (n + 1) = totalTo s t n + offs s n t := by
  unfold totalTo
  rw [List.range_succ, List.map_append, List.foldl_append]
  rfl
theorem offs_le_total {s : State} {t n i : Nat} (h : i < n) : offs s i t ≤ totalTo s t n := by
  induction n with
  | zero => omega
  | succ m ih =>
    rw [total_succ]
    by_cases hm : i < m
    · have := ih hm
      omega
    · have : i = m := by omega
      subst this
      omega
theorem all_len {s : State} {t : Nat} : (allOf s t).length = totalTo s t s.works.strikers.length := by
  have h : ∀ n, n ≤ s.works.strikers.length → ((List.range n).flatMap fun (i : Nat) => ((strikes s i t).1).map fun (y : Nat × Nat) => (y.1, i, y.2)).length = totalTo s t n := by
    intro n
    induction n with
    | zero => intro _; rfl
    | succ m ih =>
      intro hm
      rw [List.range_succ, List.flatMap_append, List.length_append, ih (by omega), total_succ]
      have hx : s.works.strikers[m]? = some s.works.strikers[m] := List.getElem?_eq_getElem (by omega)
      have := congrArg List.length (strikes_fst (t := t) hx)
      rw [List.length_map] at this
      simp only [List.flatMap_cons, List.flatMap_nil, List.append_nil, List.length_map]
      rw [this, offs_is hx]
      unfold secondsOf
      rw [List.length_map, List.length_range]
  exact h _ (Nat.le_refl _)
theorem ordered_len {s : State} {t : Nat} : (ordered (allOf s t)).length = totalTo s t s.works.strikers.length := by
  rw [← all_len]
  exact (List.mergeSort_perm (allOf s t) le3).length_eq
theorem go_is (s : State) (n : Nat) : Mu07.go s n = if 400 < totalTo s (s.now + n) s.works.strikers.length then none else some ({ s with now := s.now + n, next := (List.range s.works.strikers.length).map fun (i : Nat) => (strikes s i (s.now + n)).2 }, ordered (allOf s (s.now + n))) := rfl
end Cw

/-! The walk through calls: what strikes; rates; what's shown; a turn; a lift. -/
namespace Cw
open PySem PySem.Spec PyProof.Rows L2 Evl
open Mu07 (State Goes Works Star Q frac whole Bytes struck)
section
variable {K : PySem.W.Frag} {mg : Str → Option Value} {T : Txt K mg} {H H' : Hp} {L : Lay} {s : State}
theorem nd_get {l : List Addr} (h : l.Nodup) {i j : Nat} {a : Addr} (hi : l[i]? = some a) (hj : l[j]? = some a) : i = j := by
  obtain ⟨h1, e1⟩ := List.getElem?_eq_some_iff.mp hi
  obtain ⟨h2, e2⟩ := List.getElem?_eq_some_iff.mp hj
  have w := List.pairwise_iff_getElem.mp h
  rcases Nat.lt_trichotomy i j with c | c | c
  · exact absurd (e1.trans e2.symm) (w i j h1 h2 c)
  · exact c
  · exact absurd (e2.trans e1.symm) (w j i h2 h1 c)
theorem set_getD {l : List Nat} {i j z : Nat} (h : i < l.length) : (l.set i z).getD j 0 = if j = i then z else l.getD j 0 := by
  rw [List.getD_eq_getElem?_getD, List.getElem?_set, List.getD_eq_getElem?_getD]
  by_cases e : j = i
  · subst e
    rw [if_pos rfl, if_pos rfl, if_pos h]
    rfl
  · rw [if_neg (fun z => e z.symm), if_neg e]
theorem setZ_getD {l : List Int} {i j : Nat} {z : Int} (h : i < l.length) : (l.set i z).getD j 0 = if j = i then z else l.getD j 0 := by
  rw [List.getD_eq_getElem?_getD, List.getElem?_set, List.getD_eq_getElem?_getD]
  by_cases e : j = i
  · subst e
    rw [if_pos rfl, if_pos rfl, if_pos h]
    rfl
  · rw [if_neg (fun z => e z.symm), if_neg e]
theorem WAt.setNext {s' : State} (h : WAt T H L s) {i n' : Nat} {p dx na q ns : Addr} {hd : V} {x : Mu07.Striker} (hp : L.sk[i]? = some p) (ho : H p = some (.ins T.Striker.C dx (strikerF na q ns hd (s.next.getD i 0 : Nat)))) (e : ExB p H H')
    (hn : H' p = some (.ins T.Striker.C dx (strikerF na q ns hd (n' : Nat)))) (hw : s'.works = s.works) (hnow : s'.now = s.now) (hr : s'.rates = s.rates) (hset : s'.set = s.set) (hdy : s'.days = s.days) (hnx : ∀ j, s'.next.getD j 0 = if j = i then n' else s.next.getD j 0) : WAt T H' L s' := by
  have t : ∀ k, strikerK ≠ k → tagOf (.ins T.Striker.C dx (strikerF na q ns hd (s.next.getD i 0 : Nat))) ≠ k := fun k hk => by
    show (strikerF _ _ _ _ _).map _ ≠ k
    rw [strikerF_keys]
    exact hk
  have wl : worksL L s' = worksL L s := by
    unfold worksL
    rw [hw, hnow]
  refine ⟨?_, h.lists.kp e ho (t _ (by decide)), by rw [hw]; exact h.lens, by rw [hw, hr]; exact h.arbs.kp e ho (t _ (by decide)) (t _ (by decide)), by rw [hw]; exact h.whls.kp e ho (t _ (by decide)) (t _ (by decide)), by rw [hw]; exact h.mshs.kp e ho (t _ (by decide)), by rw [hw]; exact h.stars.kp e ho (t _ (by decide)) (t _ (by decide)), by rw [hw, hset]; exact h.hands.kp e ho (t _ (by decide)) (t _ (by decide)), fun j pj hj => ?_, by rw [hw, hdy]; exact h.cals.kp e ho (t _ (by decide)) (t _ (by decide))⟩
  · rw [wl]
    exact e _ _ (tag_ne h.w ho fun z => (t worksK (by decide)) z.symm) h.w
  · obtain ⟨x, dxj, nj, qj, nsj, hdj, k1, k2, k3, k4, k5, k6⟩ := h.strks j pj hj
    rw [hw, hnx j]
    by_cases hij : j = i
    · subst hij
      rw [hp] at hj
      cases hj
      rw [ho] at k2
      have k2' := Option.some.inj k2
      injection k2' with _ d2 k2'
      unfold strikerF at k2'
      simp only [List.cons.injEq, Prod.mk.injEq, V.ref.injEq, true_and, and_true] at k2'
      obtain ⟨a1, a2, a3, a4⟩ := k2'
      rw [if_pos rfl]
      refine ⟨x, dx, na, q, ns, hd, k1, hn, by rw [a2]; exact k3, by rw [a1]; exact k4.kp e ho (t _ (by decide)), fun z => ?_, fun z hz => ?_⟩
      · obtain ⟨b1, b2⟩ := k5 z
        exact ⟨by rw [a4]; exact b1, by rw [a3]; exact b2.kp e ho (t _ (by decide))⟩
      · rw [a4]
        exact k6 z hz
    · rw [if_neg hij]
      exact ⟨x, dxj, nj, qj, nsj, hdj, k1, e _ _ (fun z => hij (nd_get h.lens.nsk (z ▸ hj) hp)) k2, k3, k4.kp e ho (t _ (by decide)), fun z => ⟨(k5 z).1, (k5 z).2.kp e ho (t _ (by decide))⟩, k6⟩
theorem bt_time {t : Nat} (h : t ≤ 100000000000) : Bt 37 (t : Int) := by
  unfold Bt
  have : (2 : Nat) ^ 37 = 137438953472 := by decide
  omega
end
section
variable {P : Program} {w : World} {K : PySem.W.Frag} {mg : Str → Option Value} {base : Heap} (T : Txt K mg)
def spStrike : Sp := fun vs H Q _ => ∃ (L : Lay) (s : State) (i : Nat) (p : Addr) (t : Nat), vs = [.ref p, .int t] ∧ WAt T H L s ∧ Good s ∧ SetOk s ∧ L.sk[i]? = some p ∧ Bt 2000 (t : Int) ∧
  ∀ H', ExB p H H' → (∃ (dx na q ns : Addr) (hd : V), H p = some (.ins T.Striker.C dx (strikerF na q ns hd (s.next.getD i 0 : Nat))) ∧ H' p = some (.ins T.Striker.C dx (strikerF na q ns hd ((struck s i (s.next.getD i 0) t).2 : Nat)))) → Q (.int ((struck s i (s.next.getD i 0) t).1 : Nat)) H'
theorem ok_strike : FnOk P w K mg base CX0 19 T.strike.f T.strike.fd ["striker", "time"] (spStrike T) := by
  refine T.strike.F.ok sc_strike (fun vs H Q E h => ?_) (fun cdv A outer s H vs Q E hr h => ?_)
  · obtain ⟨L, s, i, p, t, rfl, _⟩ := h
    rfl
  · obtain ⟨L, s, i, p, t, rfl, hA, hG, hS, hp, ht, k⟩ := h
    refine ⟨_, (pss_cons (ps_if (pt_cmpR op_notN (pe_fld (pv 0) rfl) pe_non (nomark _))
    (pss_one (ps_ret (pe_call (ok_struck_by T) (hr.mono (by decide)) (by rfl) T.struck_by.g T.struck_by.F.kp T.struck_by.b .nil pass0 (pa_cons (pe_fld (pv 0) rfl) (pa_cons (pv 1) pa_nil))))) pss_nil)
    (pss_cons (ps_set (i := 2) sc_strike.nd rfl (Or.inl rfl) (pe_ix ix_list (pe_fld (pv 0) rfl) (pe_fld (pv 0) rfl) (fun _ _ => rfl)))
    (pss_cons (ps_fld (pv 0) (pe_op op_mod (pe_op op_add (pe_fld (pv 0) rfl) pe_int) (pe_callB call_len_seq (by rfl) T.b_len (by decide +kernel) (pa_cons (pe_fld (pv 0) rfl) pa_nil))) rfl)
    (pss_one (ps_ret (pv 2)))))), ?_⟩
    obtain ⟨x, dx, na, q, ns, hd, k1, k2, k3, k4, k5, k6⟩ := hA.strks i p hp
    have hi : i < s.next.length := by
      rw [hG.lnext]
      exact lt_of_get k1
    cases hh : x.hand with
    | some j =>
      obtain ⟨hpA, e1, e2⟩ := k6 j hh
      have st : struck s i (s.next.getD i 0) t = (struckBy s j t, s.next.getD i 0) := by
        unfold struck struckBy
        rw [k1]
        dsimp only
        rw [hh]
      rw [st] at k
      refine q_when (b := true) (et_test (ev_is (ev_op (ev_fld (ev_var rfl) (T.fd_striker_hand k2)) ev_c rv_notN) (by rw [e1]; exact congrArg V.bl (by rw [decide_eq_false fun z => by cases z]; rfl)))) (fun _ H1 x1 => ?_) (fun z => by cases z)
      have fd := T.fd_striker_hand (x1 _ _ k2)
      rw [e1] at fd
      refine s_ret (ev_call (ea_cons (ev_fld (ev_var rfl) fd) (ea_cons (ev_var rfl) ea_nil)) (sv_of fun H2 x2 => ⟨s, j, hpA, t, rfl, (hA.ex (x1.trans x2)).hand hG hS e2, ht, rfl⟩)) fun H2 x2 => k H2 (ExB.of (x1.trans x2)) ⟨dx, na, q, ns, hd, k2, (x1.trans x2) _ _ k2⟩
    | none =>
      obtain ⟨e1, n0, n1⟩ := k5 hh
      have lt := hG.next i x k1 hh
      have st : struck s i (s.next.getD i 0) t = (x.numbers.getD (s.next.getD i 0 % x.numbers.length) 0, (s.next.getD i 0 + 1) % x.numbers.length) := by
        unfold struck
        rw [k1]
        dsimp only
        rw [hh]
      rw [st, Nat.mod_eq_of_lt lt] at k
      refine q_when (b := false) (et_test (ev_is (ev_op (ev_fld (ev_var rfl) (T.fd_striker_hand k2)) ev_c rv_notN) (by rw [e1]; rfl))) (fun z => by cases z) (fun _ H1 x1 => ?_)
      have k21 := x1 _ _ k2
      refine q_asg (ev_ixL (j := s.next.getD i 0) (ev_fld (ev_var rfl) (T.fd_striker_numbers k21)) (ev_fld (ev_var rfl) (T.fd_striker_place k21)) (SqL.of (x1 _ _ n1)) rfl (byV_get lt)) fun H2 x2 => ?_
      have k22 := x2 _ _ k21
      have lpos : (0 : Int) < ((byV x.numbers).length : Int) := by
        rw [byV_len]
        omega
      refine q_stB k22 (ExB.refl p H2) (v := .int (((s.next.getD i 0 + 1) % x.numbers.length : Nat) : Int)) (ev_is (ev_iC (ev_i (ev_fld (ev_var rfl) (T.fd_striker_place k22)) ev_c) (ev_len (ev_fld (ev_var rfl) (T.fd_striker_numbers k22)) (SqL.of ((x1.trans x2) _ _ n1))) lpos) (congrArg V.int (by rw [byV_len, Int.natCast_emod]; rfl))) (ev_var rfl) T.Striker.cl T.n_Striker_place strikerF_len fun H3 h3 b3 => ?_
      rw [strikerF_put_place] at h3
      exact s_ret (ev_var rfl) fun H4 x4 => k H4 (((ExB.of (x1.trans x2)).trans b3).trans (ExB.of x4)) ⟨dx, na, q, ns, hd, k2, x4 _ _ h3⟩
end
end Cw

/-! The walk through calls: rates; what's shown; a turn; a lift; days. -/
namespace Cw
open PySem PySem.Spec PyProof.Rows L2 Evl
open Mu07 (State Goes Works Star Q frac whole Bytes struck step Call Abs Ans meanOf)
/-- set on by little so far -/
def SetSm (s : State) : Prop := ∀ i, (s.set.getD i 0).natAbs ≤ 1000000
theorem SetSm.ok {s : State} (h : SetSm s) : SetOk s := fun i => Nat.le_trans (h i) (by decide)
structure Std {K : PySem.W.Frag} {mg : Str → Option Value} (T : Txt K mg) (H : Hp) (L : Lay) (s : State) : Prop where
  w : WAt T H L s
  g : Good s
  s : SetSm s
/-- what calls change -/
def chg (L : Lay) : List Addr := L.a :: (L.ha ++ L.sk ++ L.ca)
/-- a call's promise -/
def AnsK {K : PySem.W.Frag} {mg : Str → Option Value} (T : Txt K mg) (L : Lay) (H : Hp) (Q : VK) (r : Abs × Ans) : Prop := match r with
  | (some s', a) => ∀ p H', H p = none → KeptL (chg L) H H' → H' p = some (.lst (zV a)) → WAt T H' L s' → Q (.ref p) H'
  | (none, _) => True
section
variable {K : PySem.W.Frag} {mg : Str → Option Value} {T : Txt K mg} {H H' : Hp} {L : Lay} {s s' : State} {Q : VK}
theorem AnsK.ret {r : Abs × Ans} {a : Ans} (k : AnsK T L H Q r) (e : r = (some s', a)) {p : Addr} (np : H p = none) (kp : KeptL (chg L) H H') (hp : H' p = some (.lst (zV a))) (w : WAt T H' L s') : Q (.ref p) H' := by
  subst e
  exact k p H' np kp hp w
theorem Std.ex (h : Std T H L s) (e : Ex H H') : Std T H' L s := ⟨h.w.ex e, h.g, h.s⟩
/-- nothing changes -/
theorem AnsK.keep {r : Abs × Ans} {a : Ans} (k : AnsK T L H Q r) (e : r = (some s, a)) {p : Addr} (np : H p = none) (x : Ex H H') (hp : H' p = some (.lst (zV a))) (w : WAt T H L s) : Q (.ref p) H' := k.ret e np (KeptL.of x) hp (w.ex x)
theorem WAt.setHand (h : WAt T H L s) {i : Nat} {z : Int} {p dx na q : Addr} {x : Mu07.Hand} (hx : s.works.hands[i]? = some x) (hp : L.ha[i]? = some p) (ho : H p = some (.ins T.Hand.C dx (handF na q (x.marks : Int) ((x.first : Int) + s.set.getD i 0)))) (e : ExB p H H')
    (hn : H' p = some (.ins T.Hand.C dx (handF na q (x.marks : Int) ((x.first : Int) + z)))) (hw : s'.works = s.works) (hnow : s'.now = s.now) (hr : s'.rates = s.rates) (hnx : s'.next = s.next) (hdy : s'.days = s.days) (hset : ∀ j, s'.set.getD j 0 = if j = i then z else s.set.getD j 0) : WAt T H' L s' := by
  have t : ∀ k, handK ≠ k → tagOf (.ins T.Hand.C dx (handF na q (x.marks : Int) ((x.first : Int) + s.set.getD i 0))) ≠ k := fun k hk => by
    show (handF _ _ _ _).map _ ≠ k
    rw [handF_keys]
    exact hk
  have wl : worksL L s' = worksL L s := by
    unfold worksL
    rw [hw, hnow]
  refine ⟨?_, h.lists.kp e ho (t _ (by decide)), by rw [hw]; exact h.lens, by rw [hw, hr]; exact h.arbs.kp e ho (t _ (by decide)) (t _ (by decide)), by rw [hw]; exact h.whls.kp e ho (t _ (by decide)) (t _ (by decide)), by rw [hw]; exact h.mshs.kp e ho (t _ (by decide)), by rw [hw]; exact h.stars.kp e ho (t _ (by decide)) (t _ (by decide)), fun j pj hj => ?_, by rw [hw, hnx]; exact h.strks.kp e ho (t _ (by decide)) (t _ (by decide)), by rw [hw, hdy]; exact h.cals.kp e ho (t _ (by decide)) (t _ (by decide))⟩
  · rw [wl]
    exact e _ _ (tag_ne h.w ho fun z => (t worksK (by decide)) z.symm) h.w
  · obtain ⟨y, dxj, nj, qj, k1, k2, k3, k4⟩ := h.hands j pj hj
    rw [hw, hset j]
    by_cases hij : j = i
    · subst hij
      rw [hp] at hj
      cases hj
      rw [hx] at k1
      cases k1
      rw [ho] at k2
      have k2' := Option.some.inj k2
      injection k2' with _ d2 k2'
      unfold handF at k2'
      simp only [List.cons.injEq, Prod.mk.injEq, V.ref.injEq, true_and, and_true] at k2'
      obtain ⟨a1, a2⟩ := k2'
      rw [if_pos rfl]
      exact ⟨x, dx, na, q, hx, hn, by rw [a2]; exact k3, by rw [a1]; exact k4.kp e ho (t _ (by decide))⟩
    · rw [if_neg hij]
      exact ⟨y, dxj, nj, qj, k1, e _ _ (fun z => hij (nd_get h.lens.nha (z ▸ hj) hp)) k2, k3, k4.kp e ho (t _ (by decide))⟩
theorem WAt.setCal (h : WAt T H L s) {i : Nat} {z : Int} {p dx na q : Addr} {x : Mu07.Calendar} (hx : s.works.calendars[i]? = some x) (hp : L.ca[i]? = some p) (ho : H p = some (.ins T.Calendar.C dx (calF na q x.first.y (x.first.m : Int) (x.first.d : Int) (s.days.getD i 0)))) (e : ExB p H H')
    (hn : H' p = some (.ins T.Calendar.C dx (calF na q x.first.y (x.first.m : Int) (x.first.d : Int) z))) (hw : s'.works = s.works) (hnow : s'.now = s.now) (hr : s'.rates = s.rates) (hnx : s'.next = s.next) (hset : s'.set = s.set) (hdy : ∀ j, s'.days.getD j 0 = if j = i then z else s.days.getD j 0) : WAt T H' L s' := by
  have t : ∀ k, calK ≠ k → tagOf (.ins T.Calendar.C dx (calF na q x.first.y (x.first.m : Int) (x.first.d : Int) (s.days.getD i 0))) ≠ k := fun k hk => by
    show (calF _ _ _ _ _ _).map _ ≠ k
    rw [calF_keys]
    exact hk
  have wl : worksL L s' = worksL L s := by
    unfold worksL
    rw [hw, hnow]
  refine ⟨?_, h.lists.kp e ho (t _ (by decide)), by rw [hw]; exact h.lens, by rw [hw, hr]; exact h.arbs.kp e ho (t _ (by decide)) (t _ (by decide)), by rw [hw]; exact h.whls.kp e ho (t _ (by decide)) (t _ (by decide)), by rw [hw]; exact h.mshs.kp e ho (t _ (by decide)), by rw [hw]; exact h.stars.kp e ho (t _ (by decide)) (t _ (by decide)), by rw [hw, hset]; exact h.hands.kp e ho (t _ (by decide)) (t _ (by decide)), by rw [hw, hnx]; exact h.strks.kp e ho (t _ (by decide)) (t _ (by decide)), fun j pj hj => ?_⟩
  · rw [wl]
    exact e _ _ (tag_ne h.w ho fun z => (t worksK (by decide)) z.symm) h.w
  · obtain ⟨y, dxj, nj, qj, k1, k2, k3, k4⟩ := h.cals j pj hj
    rw [hw, hdy j]
    by_cases hij : j = i
    · subst hij
      rw [hp] at hj
      cases hj
      rw [hx] at k1
      cases k1
      rw [ho] at k2
      have k2' := Option.some.inj k2
      injection k2' with _ d2 k2'
      unfold calF at k2'
      simp only [List.cons.injEq, Prod.mk.injEq, V.ref.injEq, true_and, and_true] at k2'
      obtain ⟨a1, a2⟩ := k2'
      rw [if_pos rfl]
      exact ⟨x, dx, na, q, hx, hn, by rw [a2]; exact k3, by rw [a1]; exact k4.kp e ho (t _ (by decide))⟩
    · rw [if_neg hij]
      exact ⟨y, dxj, nj, qj, k1, e _ _ (fun z => hij (nd_get h.lens.nca (z ▸ hj) hp)) k2, k3, k4.kp e ho (t _ (by decide))⟩
theorem el_cat {σ : L2.St} {ta tb : TE} {xs ys : List V} (ha : EvL ta σ H xs) (hb : EvL tb σ H ys) (hz : xs.length + ys.length ≤ 100000) : EvL (tOp rCat ta tb) σ H (xs ++ ys) := fun H1 e Q q =>
  ha H1 e _ fun l H2 nl e2 hl => hb H2 (e.trans e2) _ fun b H3 nb e3 hb3 => ⟨l, b, xs, ys, rfl, rfl, e3 _ _ hl, hb3, sz_of hz, fun p np => q p _ (fresh_back (e2.trans e3) np) ((e2.trans e3).trans (Ex.new np)) upd_same⟩
/-- return [x, f(..)] -/
theorem s_retC2 {σ : L2.St} {D : Ends} {sp : Sp} {dvs vs : List V} {E : XK} {t0 : TE} {ta : TA} {v0 : V} (h0 : Ev t0 σ H v0) (h : EvA ta σ H vs) (k : ∀ H1, Ex H H1 → sp (vs ++ dvs) H1 (fun v H2 => [v0, v].length ≤ sizeLine ∧ ∀ p, H2 p = none → D.rt (.ref p) (upd H2 p (.lst [v0, v]))) E) : tRet (tLst (tCons t0 (tCons (tCall sp dvs E ta) tNil))) D σ H :=
  h0 H (Ex.refl H) _ fun H1 e1 => h H1 e1 _ fun H2 e2 => k H2 (e1.trans e2)
theorem inB {z lo hi : Int} : (decide (z < lo) || decide (hi < z)) = !Mu07.inBounds z lo hi := by
  unfold Mu07.inBounds
  by_cases h1 : lo ≤ z
  · rw [decide_eq_true h1, decide_eq_false (by omega : ¬ z < lo)]
    by_cases h2 : z ≤ hi
    · rw [decide_eq_true h2, decide_eq_false (by omega : ¬ hi < z)]
      rfl
    · rw [decide_eq_false h2, decide_eq_true (by omega : hi < z)]
      rfl
  · rw [decide_eq_false h1, decide_eq_true (by omega : z < lo)]
    rfl
end
section
variable {P : Program} {w : World} {K : PySem.W.Frag} {mg : Str → Option Value} {base : Heap} (T : Txt K mg)
def spRate : Sp := fun vs H Q _ => ∃ (L : Lay) (s : State) (q : Addr) (nm : Bytes), vs = [.ref L.a, .ref q] ∧ Std T H L s ∧ H q = some (.lst (byV nm)) ∧ AnsK T L H Q (step (some s) (.rate nm))
theorem ok_rate : FnOk P w K mg base CX0 11 T.rate.f T.rate.fd ["works", "name"] (spRate T) := by
  refine T.rate.F.ok sc_rate (fun vs H Q E h => ?_) (fun cdv A outer s H vs Q E hr h => ?_)
  · obtain ⟨L, s, q, nm, rfl, _⟩ := h
    rfl
  · obtain ⟨L, s, q, nm, rfl, hS, hq, k⟩ := h
    refine ⟨_, (pss_cons (ps_set (i := 2) sc_rate.nd rfl (Or.inl rfl) (pe_call (ok_find_mover T) (hr.mono (by decide)) (by rfl) T.find_mover.g T.find_mover.F.kp T.find_mover.b .nil pass0 (pa_cons (pv 0) (pa_cons (pv 1) pa_nil))))
    (pss_cons (ps_if (pt_cmpR op_isN (pv 2) pe_non (nomark _))
    (pss_one (ps_ret (pe_lst (pa_cons (pe_un un_neg pe_int) pa_nil)))) pss_nil)
    (pss_cons (ps_set (i := 3) sc_rate.nd rfl (Or.inl rfl) (pe_call (ok_rate_of T) (hr.mono (by decide)) (by rfl) T.rate_of.g T.rate_of.F.kp T.rate_of.b .nil pass0 (pa_cons (pv 2) pa_nil)))
    (pss_one (ps_ret (pe_lst (pa_cons pe_int (pa_cons (pe_ix ix_tup (pv 3) pe_int (fun _ _ => rfl)) (pa_cons (pe_ix ix_tup (pv 3) pe_int (fun _ _ => rfl)) pa_nil))))))))), ?_⟩
    have hst : step (some s) (.rate nm) = (some s, match Mu07.goes s.works nm with | some g => 0 :: Mu07.told (meanOf s 8 g) | none => [-2]) := rfl
    refine q_asg (v := goV L (Mu07.goes s.works nm)) (ev_call (ea_cons (ev_var rfl) (ea_cons (ev_var rfl) ea_nil)) (sv_of fun H2 e2 => ⟨L, s.works, q, nm, rfl, (hS.w.ex e2).names, e2 _ _ hq, rfl⟩)) fun H2 e2 => ?_
    refine q_when (b := (Mu07.goes s.works nm).isNone) (et_test (ev_is (ev_op (ev_var rfl) ev_c rv_isN) (congrArg V.bl isNone_go))) (fun hb H3 e3 => ?_) (fun hb H3 e3 => ?_)
    · have hi : Mu07.goes s.works nm = none := by simpa using hb
      rw [hi] at hst
      exact s_retL (el_lst (ea_cons (ev_neg ev_c) ea_nil) (Nat.le_of_ble_eq_true rfl)) fun p H4 np e4 hp => k.keep hst (fresh_back (e2.trans e3) np) ((e2.trans e3).trans e4) hp hS.w
    · obtain ⟨g, hg⟩ : ∃ g, Mu07.goes s.works nm = some g := by
        cases h : Mu07.goes s.works nm with
        | none => rw [h] at hb; cases hb
        | some g => exact ⟨g, rfl⟩
      rw [hg] at hst ⊢
      obtain ⟨qm, hq1, hq2⟩ := hS.w.goV_some (g := g) (goes_ok hg)
      rw [hq1]
      have hm := hS.w.mov hS.g hq2
      refine q_asgU (eu_call (ea_cons (ev_var rfl) ea_nil) (su_of fun H4 e4 => ⟨s, g, qm, rfl, hm.ex ((e2.trans e3).trans e4), rfl⟩)) fun u H4 nu e4 hu => ?_
      have e04 := (e2.trans e3).trans e4
      exact s_retL (el_lst (ea_cons ev_c (ea_cons (ev_ixT (j := 0) (ev_var rfl) ev_c (SqT.of hu) rfl rfl) (ea_cons (ev_ixT (j := 1) (ev_var rfl) ev_c (SqT.of hu) rfl rfl) ea_nil))) (Nat.le_of_ble_eq_true rfl)) fun p H5 np e5 hp => k.keep hst (fresh_back e04 np) (e04.trans e5) hp hS.w
def spShow : Sp := fun vs H Q _ => ∃ (L : Lay) (s : State), vs = [.ref L.a] ∧ Std T H L s ∧ AnsK T L H Q (step (some s) .show_)
theorem ok_show : FnOk P w K mg base CX0 18 T.show_.f T.show_.fd ["works"] (spShow T) := by
  refine T.show_.F.ok sc_show (fun vs H Q E h => ?_) (fun cdv A outer s H vs Q E hr h => ?_)
  · obtain ⟨L, s, rfl, _⟩ := h
    rfl
  · obtain ⟨L, s, rfl, hS, k⟩ := h
    refine ⟨_, (pss_one (ps_ret (pe_op op_cat (pe_lst (pa_cons (pe_fld (pv 0) rfl) pa_nil)) (pe_lc (own := [("hand", 1)]) (g := gName 1) (tt := tYes) rfl sc_show.nd (pi_list (pe_fld (pv 0) rfl)) (blkOk_by (N := ["works", "hand"]) (sc := defScope tx_show) (by decide +kernel)) (fun _ _ _ _ _ => pg_name (i := 1) sc_show.nd rfl (Or.inl rfl)) (fun _ _ _ _ _ => pts_nil) (fun _ _ _ _ _ => (pe_call (ok_shows T) (hr.mono (by decide)) (by rfl) T.shows.g T.shows.F.kp T.shows.b .nil pass0 (pa_cons (pv 1) (pa_cons (pe_fldK (K := K) rfl (pv 0) rfl) pa_nil)))))))), ?_⟩
    have hst : step (some s) .show_ = (some s, (s.now : Int) :: (List.range s.works.hands.length).map fun (h : Nat) => Mu07.shows s h s.now) := rfl
    have hal : L.ha.length = s.works.hands.length := hS.w.lens.ha
    have nh := hS.g.wf.nh
    have bt := (bt_time hS.g.now).up (b := 2000) (by decide)
    refine s_retL (xs := V.int (s.now : Int) :: given (refV L.ha).length (fun _ => true) (fun i => .int (Mu07.shows s i s.now))) (el_cat (xs := [V.int (s.now : Int)]) (el_lst (ea_cons (ev_fld (ev_var rfl) (T.fd_works_now hS.w.w)) ea_nil) (Nat.le_of_ble_eq_true rfl)) (el_lcL (K := K) (fun _ => true) (fun i => .int (Mu07.shows s i s.now)) (ev_fld (ev_var rfl) (T.fd_works_hands hS.w.w)) (SqL.of hS.w.lists.lh) (by rw [refV_len]; omega) (fun _ => rfl) (fun i x H1 e1 hi => et_yes) (fun i x H1 e1 hi _ => ?_)) ?_) fun p H4 np e4 hp => k.keep hst np e4 (by rw [hp, given_all, refV_len, hal]; unfold zV; rw [List.map_cons, List.map_map]; rfl) hS.w
    · obtain ⟨a, ha, rfl⟩ := refV_at hi
      exact ev_call (ea_cons (ev_var rfl) (ea_cons (ev_fld (ev_var rfl) (T.fd_works_now (e1 _ _ hS.w.w))) ea_nil)) (sv_of fun H2 e2 => ⟨s, i, a, s.now, rfl, (hS.w.ex (e1.trans e2)).hand hS.g hS.s.ok ha, bt, rfl⟩)
    · have := given_len (refV L.ha).length (fun _ => true) (fun i => V.int (Mu07.shows s i s.now))
      rw [refV_len] at this ⊢
      show 1 + (given L.ha.length (fun _ => true) (fun i => V.int (Mu07.shows s i s.now))).length ≤ 100000
      omega
def spTurn : Sp := fun vs H Q _ => ∃ (L : Lay) (s : State) (h : Nat) (z : Int), vs = [.ref L.a, .int (h : Nat), .int z] ∧ Std T H L s ∧ AnsK T L H Q (step (some s) (.turn h z))
theorem ok_turn : FnOk P w K mg base CX0 18 T.turn.f T.turn.fd ["works", "h", "k"] (spTurn T) := by
  refine T.turn.F.ok sc_turn (fun vs H Q E h => ?_) (fun cdv A outer s H vs Q E hr h => ?_)
  · obtain ⟨L, s, h, z, rfl, _⟩ := h
    rfl
  · obtain ⟨L, s, h, z, rfl, hS, k⟩ := h
    refine ⟨_, (pss_cons (ps_if (pt_cmpR op_ge (pv 1) (pe_callB call_len_seq (by rfl) T.b_len (by decide +kernel) (pa_cons (pe_fld (pv 0) rfl) pa_nil)) (nomark _))
    (pss_one (ps_ret (pe_lst (pa_cons (pe_un un_neg pe_int) pa_nil)))) pss_nil)
    (pss_cons (ps_if (PW.pt (pw_or (pt_cmpR op_lt (pv 2) (pe_un un_neg pe_int) (nomark _)) (pw_or1 (pt_cmpR op_gt (pv 2) pe_int (nomark _)))))
    (pss_one (ps_ret (pe_lst (pa_cons (pe_un un_neg pe_int) pa_nil)))) pss_nil)
    (pss_cons (ps_set (i := 3) sc_turn.nd rfl (Or.inl rfl) (pe_ix ix_list (pe_fld (pv 0) rfl) (pv 1) (fun _ _ => rfl)))
    (pss_cons (ps_fld (pv 3) (pe_op op_add (pe_fld (pv 3) rfl) (pv 2)) rfl)
    (pss_one (ps_ret (pe_lst (pa_cons pe_int (pa_cons (pe_call (ok_shows T) (hr.mono (by decide)) (by rfl) T.shows.g T.shows.F.kp T.shows.b .nil pass0 (pa_cons (pv 3) (pa_cons (pe_fld (pv 0) rfl) pa_nil))) pa_nil))))))))), ?_⟩
    have hst : step (some s) (.turn h z) = if s.works.hands.length ≤ h then (some s, [-2]) else if Mu07.inBounds z (-1000) 1000 = false then (some s, [-1]) else (some { s with set := s.set.set h (s.set.getD h 0 + z) }, [0, Mu07.shows { s with set := s.set.set h (s.set.getD h 0 + z) } h s.now]) := rfl
    have hal : L.ha.length = s.works.hands.length := hS.w.lens.ha
    refine q_when (b := decide (s.works.hands.length ≤ h)) (et_is (et_test (ev_i (ev_var rfl) (ev_len (ev_fld (ev_var rfl) (T.fd_works_hands hS.w.w)) (SqL.of hS.w.lists.lh)))) (by rw [refV_len, hal]; exact dle)) (fun hb H1 e1 => ?_) (fun hb H1 e1 => ?_)
    · rw [if_pos (of_decide_eq_true hb)] at hst
      exact s_retL (el_lst (ea_cons (ev_neg ev_c) ea_nil) (Nat.le_of_ble_eq_true rfl)) fun p H4 np e4 hp => k.keep hst (fresh_back e1 np) (e1.trans e4) hp hS.w
    have hlt := of_decide_eq_false hb
    rw [if_neg hlt] at hst
    refine q_when (b := !Mu07.inBounds z (-1000) 1000) (et_is (et_or (et_test (ev_i (ev_var rfl) (ev_neg ev_c))) fun _ => et_test (ev_i (ev_var rfl) ev_c)) inB) (fun hb2 H2 e2 => ?_) (fun hb2 H2 e2 => ?_)
    · rw [if_pos (by simpa using hb2)] at hst
      exact s_retL (el_lst (ea_cons (ev_neg ev_c) ea_nil) (Nat.le_of_ble_eq_true rfl)) fun p H4 np e4 hp => k.keep hst (fresh_back (e1.trans e2) np) ((e1.trans e2).trans e4) hp hS.w
    rw [if_neg (by intro y; rw [y] at hb2; cases hb2)] at hst
    have e02 := e1.trans e2
    have hS2 := hS.ex e02
    have hi : h < L.ha.length := by omega
    have hp : L.ha[h]? = some L.ha[h] := List.getElem?_eq_getElem hi
    obtain ⟨x, dx, na, q, k1, k2, k3, k4⟩ := hS2.w.hands h _ hp
    generalize L.ha[h] = hpA at *
    refine q_asg (ev_ixL (j := h) (ev_fld (ev_var rfl) (T.fd_works_hands hS2.w.w)) (ev_var rfl) (SqL.of hS2.w.lists.lh) rfl (refV_get hp)) fun H3 e3 => ?_
    have k23 := e3 _ _ k2
    have hS3 := hS2.ex e3
    refine q_stB k23 (ExB.refl hpA H3) (ev_i (ev_fld (ev_var rfl) (T.fd_hand_offset k23)) (ev_var rfl)) (ev_var rfl) T.Hand.cl T.n_Hand_offset handF_len fun H4 h4 b4 => ?_
    rw [handF_put_offset, Int.add_assoc] at h4
    have sl : h < s.set.length := by
      rw [hS.g.lset]
      omega
    have hz : -1000 ≤ z ∧ z ≤ 1000 := by
      have : Mu07.inBounds z (-1000) 1000 = true := by simpa using hb2
      unfold Mu07.inBounds at this
      rw [Bool.and_eq_true] at this
      exact ⟨of_decide_eq_true this.1, of_decide_eq_true this.2⟩
    have A4 := hS3.w.setHand (s' := { s with set := s.set.set h (s.set.getD h 0 + z) }) k1 hp k23 b4 h4 rfl rfl rfl rfl rfl (fun j => setZ_getD sl)
    have G4 : Good { s with set := s.set.set h (s.set.getD h 0 + z) } := ⟨hS.g.wf, hS.g.rates, by show (s.set.set _ _).length = _; rw [List.length_set]; exact hS.g.lset, hS.g.lnext, hS.g.ldays, hS.g.next, hS.g.now⟩
    have S4 : SetOk { s with set := s.set.set h (s.set.getD h 0 + z) } := fun j => by
      show ((s.set.set h (s.set.getD h 0 + z)).getD j 0).natAbs ≤ _
      rw [setZ_getD sl]
      have := hS.s h
      have := hS.s j
      split <;> omega
    have bt := (bt_time hS.g.now).up (b := 2000) (by decide)
    have kp4 : KeptL (chg L) H H4 := (KeptL.of (e02.trans e3)).trans (KeptL.ofB (by
      unfold chg
      exact List.mem_cons_of_mem _ (List.mem_append_left _ (List.mem_append_left _ (List.mem_of_getElem? hp)))) b4)
    refine s_retL (el_lst (ea_cons ev_c (ea_cons (ev_call (ea_cons (ev_var rfl) (ea_cons (ev_fld (ev_var rfl) (T.fd_works_now A4.w)) ea_nil)) (sv_of fun H5 e5 => ⟨_, h, hpA, s.now, rfl, (A4.ex e5).hand G4 S4 hp, bt, rfl⟩)) ea_nil)) (Nat.le_of_ble_eq_true rfl)) fun p H5 np e5 hp5 => k.ret hst ?_ (kp4.trans (KeptL.of e5)) hp5 (A4.ex e5)
    cases hh : H p with
    | none => rfl
    | some o =>
      by_cases e : p = hpA
      · rw [e, h4] at np
        cases np
      · have := b4 p o e ((e02.trans e3) _ _ hh)
        rw [np] at this
        cases this
def spLift : Sp := fun vs H Q _ => ∃ (L : Lay) (s : State) (i : Nat), vs = [.ref L.a, .int (i : Nat)] ∧ Std T H L s ∧ AnsK T L H Q (step (some s) (.lift i))
theorem ok_lift : FnOk P w K mg base CX0 20 T.lift.f T.lift.fd ["works", "s"] (spLift T) := by
  refine T.lift.F.ok sc_lift (fun vs H Q E h => ?_) (fun cdv A outer s H vs Q E hr h => ?_)
  · obtain ⟨L, s, i, rfl, _⟩ := h
    rfl
  · obtain ⟨L, s, i, rfl, hS, k⟩ := h
    refine ⟨_, (pss_cons (ps_if (pt_cmpR op_ge (pv 1) (pe_callB call_len_seq (by rfl) T.b_len (by decide +kernel) (pa_cons (pe_fld (pv 0) rfl) pa_nil)) (nomark _))
    (pss_one (ps_ret (pe_lst (pa_cons (pe_un un_neg pe_int) pa_nil)))) pss_nil)
    (pss_one (ps_ret (pe_lst (pa_cons pe_int (pa_cons (pe_call (ok_strike T) (hr.mono (by decide)) (by rfl) T.strike.g T.strike.F.kp T.strike.b .nil pass0 (pa_cons (pe_ix ix_list (pe_fld (pv 0) rfl) (pv 1) (fun _ _ => rfl)) (pa_cons (pe_fld (pv 0) rfl) pa_nil))) pa_nil)))))), ?_⟩
    have hst : step (some s) (.lift i) = if s.works.strikers.length ≤ i then (some s, [-2]) else (some { s with next := s.next.set i (struck s i (s.next.getD i 0) s.now).2 }, [0, ((struck s i (s.next.getD i 0) s.now).1 : Int)]) := rfl
    have skl : L.sk.length = s.works.strikers.length := hS.w.lens.sk
    refine q_when (b := decide (s.works.strikers.length ≤ i)) (et_is (et_test (ev_i (ev_var rfl) (ev_len (ev_fld (ev_var rfl) (T.fd_works_strikers hS.w.w)) (SqL.of hS.w.lists.lk)))) (by rw [refV_len, skl]; exact dle)) (fun hb H1 e1 => ?_) (fun hb H1 e1 => ?_)
    · rw [if_pos (of_decide_eq_true hb)] at hst
      exact s_retL (el_lst (ea_cons (ev_neg ev_c) ea_nil) (Nat.le_of_ble_eq_true rfl)) fun p H4 np e4 hp => k.keep hst (fresh_back e1 np) (e1.trans e4) hp hS.w
    have hlt := of_decide_eq_false hb
    rw [if_neg hlt] at hst
    have hS1 := hS.ex e1
    have hi : i < L.sk.length := by omega
    have hp : L.sk[i]? = some L.sk[i] := List.getElem?_eq_getElem hi
    generalize L.sk[i] = sp at *
    have bt := (bt_time hS.g.now).up (b := 2000) (by decide)
    refine s_retC2 (sp := spStrike T) ev_c (ea_cons (ev_ixL (j := i) (ev_fld (ev_var rfl) (T.fd_works_strikers hS1.w.w)) (ev_var rfl) (SqL.of hS1.w.lists.lk) rfl (refV_get hp)) (ea_cons (ev_fld (ev_var rfl) (T.fd_works_now hS1.w.w)) ea_nil)) fun H2 e2 => ⟨L, s, i, sp, s.now, rfl, hS1.w.ex e2, hS.g, hS.s.ok, hp, bt, fun H3 b3 ⟨dx3, na3, q3, ns3, hd3, o1, o2⟩ => ⟨Nat.le_of_ble_eq_true rfl, fun p np => ?_⟩⟩
    have A3 := (hS1.w.ex e2).setNext (x := ⟨[], .arbor 0, [], none⟩) (s' := { s with next := s.next.set i (struck s i (s.next.getD i 0) s.now).2 }) hp o1 b3 o2 rfl rfl rfl rfl rfl (fun j => set_getD (by rw [hS.g.lnext]; omega))
    have e02 := e1.trans e2
    have sp2 : H2 sp ≠ none := fun z => by
      obtain ⟨_, _, _, _, _, _, _, h2, _⟩ := (hS1.w.ex e2).strks i sp hp
      rw [z] at h2
      cases h2
    have np0 : H p = none := by
      cases hh : H p with
      | none => rfl
      | some o =>
        by_cases e : p = sp
        · obtain ⟨_, _, _, _, _, _, _, h2, _⟩ := A3.strks i sp hp
          rw [← e, np] at h2
          cases h2
        · have := b3 p o e (e02 _ _ hh)
          rw [np] at this
          cases this
    refine k.ret hst np0 (((KeptL.of e02).trans (KeptL.ofB ?_ b3)).trans (KeptL.of (Ex.new np))) upd_same (A3.ex (Ex.new np))
    unfold chg
    exact List.mem_cons_of_mem _ (List.mem_append_left _ (List.mem_append_right _ (List.mem_of_getElem? hp)))
def spDays : Sp := fun vs H Q _ => ∃ (L : Lay) (s : State) (c : Nat) (z : Int), vs = [.ref L.a, .int (c : Nat), .int z] ∧ Std T H L s ∧ AnsK T L H Q (step (some s) (.days c z))
theorem ok_days : FnOk P w K mg base CX0 1 T.days.f T.days.fd ["works", "c", "n"] (spDays T) := by
  refine T.days.F.ok sc_days (fun vs H Q E h => ?_) (fun cdv A outer s H vs Q E hr h => ?_)
  · obtain ⟨L, s, h, z, rfl, _⟩ := h
    rfl
  · obtain ⟨L, s, h, z, rfl, hS, k⟩ := h
    refine ⟨_, (pss_cons (ps_if (pt_cmpR op_ge (pv 1) (pe_callB call_len_seq (by rfl) T.b_len (by decide +kernel) (pa_cons (pe_fld (pv 0) rfl) pa_nil)) (nomark _))
    (pss_one (ps_ret (pe_lst (pa_cons (pe_un un_neg pe_int) pa_nil)))) pss_nil)
    (pss_cons (ps_if (PW.pt (pw_or (pt_cmpR op_lt (pv 2) (pe_un un_neg pe_int) (nomark _)) (pw_or1 (pt_cmpR op_gt (pv 2) pe_int (nomark _)))))
    (pss_one (ps_ret (pe_lst (pa_cons (pe_un un_neg pe_int) pa_nil)))) pss_nil)
    (pss_cons (ps_set (i := 3) sc_days.nd rfl (Or.inl rfl) (pe_ix ix_list (pe_fld (pv 0) rfl) (pv 1) (fun _ _ => rfl)))
    (pss_cons (ps_fld (pv 3) (pe_op op_add (pe_fld (pv 3) rfl) (pv 2)) rfl)
    (pss_one (ps_ret (pe_lst (pa_cons pe_int pa_nil)))))))), ?_⟩
    have hst : step (some s) (.days h z) = if s.works.calendars.length ≤ h then (some s, [-2]) else if Mu07.inBounds z (-100000) 100000 = false then (some s, [-1]) else (some { s with days := s.days.set h (s.days.getD h 0 + z) }, [0]) := rfl
    have cal : L.ca.length = s.works.calendars.length := hS.w.lens.ca
    refine q_when (b := decide (s.works.calendars.length ≤ h)) (et_is (et_test (ev_i (ev_var rfl) (ev_len (ev_fld (ev_var rfl) (T.fd_works_calendars hS.w.w)) (SqL.of hS.w.lists.lc)))) (by rw [refV_len, cal]; exact dle)) (fun hb H1 e1 => ?_) (fun hb H1 e1 => ?_)
    · rw [if_pos (of_decide_eq_true hb)] at hst
      exact s_retL (el_lst (ea_cons (ev_neg ev_c) ea_nil) (Nat.le_of_ble_eq_true rfl)) fun p H4 np e4 hp => k.keep hst (fresh_back e1 np) (e1.trans e4) hp hS.w
    have hlt := of_decide_eq_false hb
    rw [if_neg hlt] at hst
    refine q_when (b := !Mu07.inBounds z (-100000) 100000) (et_is (et_or (et_test (ev_i (ev_var rfl) (ev_neg ev_c))) fun _ => et_test (ev_i (ev_var rfl) ev_c)) inB) (fun hb2 H2 e2 => ?_) (fun hb2 H2 e2 => ?_)
    · rw [if_pos (by simpa using hb2)] at hst
      exact s_retL (el_lst (ea_cons (ev_neg ev_c) ea_nil) (Nat.le_of_ble_eq_true rfl)) fun p H4 np e4 hp => k.keep hst (fresh_back (e1.trans e2) np) ((e1.trans e2).trans e4) hp hS.w
    rw [if_neg (by intro y; rw [y] at hb2; cases hb2)] at hst
    have e02 := e1.trans e2
    have hS2 := hS.ex e02
    have hi : h < L.ca.length := by omega
    have hp : L.ca[h]? = some L.ca[h] := List.getElem?_eq_getElem hi
    obtain ⟨x, dx, na, q, k1, k2, k3, k4⟩ := hS2.w.cals h _ hp
    generalize L.ca[h] = hpA at *
    refine q_asg (ev_ixL (j := h) (ev_fld (ev_var rfl) (T.fd_works_calendars hS2.w.w)) (ev_var rfl) (SqL.of hS2.w.lists.lc) rfl (refV_get hp)) fun H3 e3 => ?_
    have k23 := e3 _ _ k2
    have hS3 := hS2.ex e3
    refine q_stB k23 (ExB.refl hpA H3) (ev_i (ev_fld (ev_var rfl) (T.fd_cal_offset k23)) (ev_var rfl)) (ev_var rfl) T.Calendar.cl T.n_Calendar_offset calF_len fun H4 h4 b4 => ?_
    rw [calF_put_offset] at h4
    have sl : h < s.days.length := by
      rw [hS.g.ldays]
      omega
    have A4 := hS3.w.setCal (s' := { s with days := s.days.set h (s.days.getD h 0 + z) }) k1 hp k23 b4 h4 rfl rfl rfl rfl rfl (fun j => setZ_getD sl)
    have kp4 : KeptL (chg L) H H4 := (KeptL.of (e02.trans e3)).trans (KeptL.ofB (by
      unfold chg
      exact List.mem_cons_of_mem _ (List.mem_append_right _ (List.mem_of_getElem? hp))) b4)
    refine s_retL (el_lst (ea_cons ev_c ea_nil) (Nat.le_of_ble_eq_true rfl)) fun p H5 np e5 hp5 => k.ret hst ?_ (kp4.trans (KeptL.of e5)) hp5 (A4.ex e5)
    cases hh : H p with
    | none => rfl
    | some o =>
      by_cases e : p = hpA
      · rw [e, h4] at np
        cases np
      · have := b4 p o e ((e02.trans e3) _ _ hh)
        rw [np] at this
        cases this
end
end Cw

/-! The walk through calls: time passes. -/
namespace Cw
open PySem PySem.Spec PyProof.Rows L2 Evl
open Mu07 (State Goes Works Star Q frac whole Bytes struck step Call Abs Ans ordered strikes)
section
variable {K : PySem.W.Frag} {σ : L2.St} {H : Hp} {D : Ends} {ta to t0 t1 : TE} {tu tz : TS} {v0 v1 : V}
theorem q_forSorted {l : Addr} {xs : List V} {k : V → Int × Int} {j : Nat} (ha : Ev ta σ H (.ref l)) (hl : H l = some (.lst xs)) (hx : ∀ x ∈ xs, ∃ t, x = .ref t ∧ H t = some (.tup [.int (k x).1, .int (k x).2])) (Pv : Addr → List V → Nat → L2.St → Hp → Prop)
    (h0 : ∀ p ys H1, SrtO.Srtd (ltP k) ys → SrtO.Stb (ltP k) ys xs → H p = none → Ex H H1 → H1 p = some (.lst ys) → Pv p ys 0 σ H1) (hL : ∀ p ys i σ' H', i ≤ ys.length → Pv p ys i σ' H' → SqL K H' p ys)
    (hs : ∀ p ys i x σ' H', ys[i]? = some x → Pv p ys i σ' H' → tu { D with nx := Pv p ys (i + 1), ct := Pv p ys (i + 1), bk := tz D } (σ'.set j (some x)) H') (hd : ∀ p ys σ' H', Pv p ys ys.length σ' H' → tz D σ' H') :
    tSeq (tFor (iList K (tCB (rSortedPO K) (tCons ta tNil))) (gName j) tu) tz D σ H :=
  ha H (Ex.refl H) _ fun H1 e1 => ⟨l, xs, k, rfl, SqL.of (e1 _ _ hl), fun x m => by
    obtain ⟨t, h1, h2⟩ := hx x m
    exact ⟨t, h1, e1 _ _ h2⟩, fun ys p s1 s2 np => ⟨p, rfl, ⟨ys, sq_of upd_same⟩, for_list (Pv p ys) (h0 p ys _ s1 s2 (fresh_back e1 np) (e1.trans (Ex.new np)) upd_same) (hL p ys) (hs p ys) (hd p ys)⟩⟩
theorem s_forNLn {xs : List V} {tl : TE} {j : Nat} (h : EvL tl σ H xs) (Pv : Addr → Nat → L2.St → Hp → Prop) (h0 : ∀ p H1, H p = none → Ex H H1 → H1 p = some (.lst xs) → Pv p 0 σ H1) (hl : ∀ p i σ' H', i ≤ xs.length → Pv p i σ' H' → SqL K H' p xs)
    (hs : ∀ p i x σ' H', xs[i]? = some x → Pv p i σ' H' → tu { D with nx := Pv p (i + 1), ct := Pv p (i + 1), bk := D.nx } (σ'.set j (some x)) H') (hd : ∀ p σ' H', Pv p xs.length σ' H' → D.nx σ' H') : tFor (iList K tl) (gName j) tu D σ H := s_forNL h Pv h0 hl hs hd
/-- told.extend([x, y, f(..)]) -/
theorem s_ext3 {l : Addr} {xs vs dvs : List V} {sp : Sp} {E : XK} {tA : TA} (hl : H l = some (.lst xs)) (hto : Ev to σ H (.ref l)) (h0 : Ev t0 σ H v0) (h1 : Ev t1 σ H v1) (h : EvA tA σ H vs)
    (k : ∀ H1, Ex H H1 → sp (vs ++ dvs) H1 (fun v H2 => [v0, v1, v].length ≤ sizeLine ∧ ∀ p, H2 p = none → rExtend (.ref l) [.ref p] (upd H2 p (.lst [v0, v1, v])) (fun _ H3 => D.nx σ H3)) E) :
    tDrop (tBM K "list" rExtend to (tCons (tLst (tCons t0 (tCons t1 (tCons (tCall sp dvs E tA) tNil)))) tNil)) D σ H :=
  hto H (Ex.refl H) _ fun H1 e1 => ⟨Or.inl ⟨rfl, xs, sq_of (e1 _ _ hl)⟩, h0 H1 e1 _ fun H2 e2 => h1 H2 (e1.trans e2) _ fun H3 e3 => h H3 ((e1.trans e2).trans e3) _ fun H4 e4 => k H4 (((e1.trans e2).trans e3).trans e4)⟩
end
/-- pairs that stand -/
structure TupsAt (H : Hp) (ts : List Addr) (ps : List (Nat × Nat)) : Prop where
  len : ts.length = ps.length
  at_ : ∀ (j : Nat) (t : Addr) (p : Nat × Nat), ts[j]? = some t → ps[j]? = some p → H t = some (.tup [.int (p.1 : Nat), .int (p.2 : Nat)])
theorem TupsAt.ex {H H' : Hp} {ts : List Addr} {ps : List (Nat × Nat)} (h : TupsAt H ts ps) (e : Ex H H') : TupsAt H' ts ps := ⟨h.len, fun j t p a b => e _ _ (h.at_ j t p a b)⟩
theorem TupsAt.snoc {H H' : Hp} {ts : List Addr} {ps : List (Nat × Nat)} {l t : Addr} {p : Nat × Nat} {o : List V} (h : TupsAt H ts ps) (hl : H l = some (.lst o)) (e : ExB l H H') (ht : H' t = some (.tup [.int (p.1 : Nat), .int (p.2 : Nat)])) : TupsAt H' (ts ++ [t]) (ps ++ [p]) := by
  refine ⟨by rw [List.length_append, List.length_append, h.len]; rfl, fun j a b ha hb => ?_⟩
  by_cases hj : j < ts.length
  · rw [List.getElem?_append_left hj] at ha
    rw [List.getElem?_append_left (by rw [← h.len]; exact hj)] at hb
    have := h.at_ j a b ha hb
    refine e a _ (fun z => ?_) this
    rw [z, hl] at this
    cases this
  · have hj2 := (List.getElem?_eq_some_iff.mp ha).1
    rw [List.length_append, List.length_singleton] at hj2
    have e1 : j = ts.length := by omega
    subst e1
    rw [List.getElem?_concat_length] at ha
    rw [h.len, List.getElem?_concat_length] at hb
    cases ha
    cases hb
    exact ht
/-- the key of a pair at an address -/
def keyOf (H : Hp) : V → Int × Int
  | .ref t => match H t with
    | some (.tup [.int a, .int b]) => (a, b)
    | _ => (0, 0)
  | _ => (0, 0)
theorem keyOf_at {H : Hp} {t : Addr} {a b : Int} (h : H t = some (.tup [.int a, .int b])) : keyOf H (.ref t) = (a, b) := by
  show (match H t with | some (.tup [.int a, .int b]) => (a, b) | _ => (0, 0)) = _
  rw [h]
theorem TupsAt.keys {H : Hp} {ts : List Addr} {ps : List (Nat × Nat)} (h : TupsAt H ts ps) : (refV ts).map (keyOf H) = ps.map zz := by
  refine List.ext_getElem (by rw [List.length_map, refV_len, List.length_map, h.len]) fun i a b => ?_
  rw [List.getElem_map, List.getElem_map]
  have hi : i < ts.length := by rw [List.length_map, refV_len] at a; exact a
  have hi2 : i < ps.length := by rw [← h.len]; exact hi
  have e : (refV ts)[i]'(by rw [refV_len]; exact hi) = .ref ts[i] := by
    unfold refV
    rw [List.getElem_map]
  rw [e]
  rw [keyOf_at (h.at_ i _ _ (List.getElem?_eq_getElem hi) (List.getElem?_eq_getElem hi2))]
  rfl
/-- a heap without one address -/
def hide (td : Addr) (H : Hp) : Hp := fun b => if b = td then none else H b
theorem hide_ex {td : Addr} {H : Hp} : Ex (hide td H) H := fun b o h => by
  unfold hide at h
  split at h
  · cases h
  · exact h
theorem hide_ne {td b : Addr} {H : Hp} (h : b ≠ td) : hide td H b = H b := if_neg h
theorem ex_hide {td : Addr} {H H' : Hp} (n : H td = none) (e : Ex H H') : Ex H (hide td H') := fun b o h => by
  rw [hide_ne (ne_of_none h n)]
  exact e _ _ h
theorem hide_mono {td : Addr} {H H' : Hp} (e : Ex H H') : Ex (hide td H) (hide td H') := fun b o h => by
  unfold hide at h ⊢
  split at h
  · cases h
  · rename_i hb
    rw [if_neg hb]
    exact e _ _ h
theorem hide_B {td p : Addr} {H H' : Hp} (e : ExB p H H') : ExB p (hide td H) (hide td H') := fun b o n h => by
  unfold hide at h ⊢
  split at h
  · cases h
  · rename_i hb
    rw [if_neg hb]
    exact e _ _ n h
theorem hide_upd {td : Addr} {H : Hp} {o : HO} : hide td (upd H td o) = hide td H := by
  funext b
  unfold hide
  by_cases h : b = td
  · rw [if_pos h, if_pos h]
  · rw [if_neg h, if_neg h, upd_ne h]
theorem turns_bdA {C : Addr} {H : Hp} {s : Mu07.State} {t a : Nat} (ht : Bt a (t : Int)) : ∀ {k : Nat} {g : Goes} {p : Addr}, IsMov C H s k g p → Bt (460 + a) (Mu07.turns s k g t)
  | 0, _, _, h => h.elim
  | k + 1, .arbor i, p, h => by
    have hd := h.deep
    have te := turns_eq t hd
    obtain ⟨dx, na, pl, h1, h2, h3, h4⟩ := h
    rw [te]
    refine Nat.lt_of_le_of_lt ?_ (h3.mul ht)
    rw [Int.natAbs_tdiv]
    exact Nat.div_le_self _ _
  | k + 1, .star i, p, h => by
    have hd := h.deep
    have te := turns_eq t hd
    obtain ⟨x, dx, na, pl, p', h1, h2, h3, h4, h5⟩ := h
    have b := turns_bdA ht h5
    rw [te, turnedZ_star h1]
    refine Nat.lt_of_le_of_lt ?_ b
    rw [Int.natAbs_tdiv]
    exact Nat.div_le_self _ _
theorem reach_bd {C : Addr} {H : Hp} {s : Mu07.State} : ∀ {k : Nat} {g : Goes} {p : Addr} {r sec B : Nat}, IsMov C H s k g p → Bt B (r : Int) → Mu07.reaches s k g r = some sec → Bt (B + 9 * k + 460) (sec : Int)
  | 0, _, _, _, _, _, h, _, _ => h.elim
  | k + 1, .arbor i, p, r, sec, B, h, hr, e => by
    have re := reach_eq r h.deep
    obtain ⟨dx, na, pl, h1, h2, h3, h4⟩ := h
    rw [e] at re
    have re : some sec = if (rateQ s i).n ≤ 0 then none else some (-((-(r : Int) * ((rateQ s i).d : Int)) / (rateQ s i).n)).toNat := re
    by_cases hn : (rateQ s i).n ≤ 0
    · rw [if_pos hn] at re
      cases re
    · rw [if_neg hn] at re
      have re := Option.some.inj re
      have m := (hr.neg).mul h4
      have l := Int.natAbs_ediv_le_natAbs (-(r : Int) * ((rateQ s i).d : Int)) (rateQ s i).n
      refine Bt.up (a := B + 460) (Nat.lt_of_le_of_lt ?_ m) (by omega)
      rw [re]
      omega
  | k + 1, .star i, p, r, sec, B, h, hr, e => by
    obtain ⟨x, dx, na, pl, p', h1, h2, h3, h4, h5⟩ := h
    have e1 : Mu07.reaches s (k + 1) (.star i) r = Mu07.reaches s k x.by_ (r * x.steps) := by
      show (match s.works.stars[i]? with | some x => Mu07.reaches s k x.by_ (r * x.steps) | none => none) = _
      rw [h1]
    rw [e1] at e
    have m := hr.mul (steps_bt h3)
    rw [← Int.natCast_mul] at m
    exact (reach_bd h5 m e).up (by omega)
theorem secs_bt {C : Addr} {H : Hp} {s : Mu07.State} {g : Goes} {p : Addr} {a b sec : Nat} (h : IsMov C H s 8 g p) (ha : Bt 37 (a : Int)) (hb : Bt 37 (b : Int)) (hab : a ≤ b) (hs : sec ∈ secondsOf s g a b) : Bt 2000 (sec : Int) := by
  unfold secondsOf at hs
  obtain ⟨k, hk, rfl⟩ := List.mem_map.mp hs
  have hk : k < offsOf s g a b := by simpa using hk
  cases hr : Mu07.reaches s 8 g (Mu07.turns s 8 g a + (k : Int) + 1).toNat with
  | none => exact (small_bt (by decide) : Bt 37 (0 : Int)).up (by decide)
  | some z =>
    have f0 := (offs_fore h.deep hab (by omega)).2
    have tb := turns_bdA hb h
    have rb : Bt 497 (((Mu07.turns s 8 g a + (k : Int) + 1).toNat : Nat) : Int) := by
      refine Nat.lt_of_le_of_lt ?_ tb
      unfold offsOf at hk
      omega
    exact (reach_bd h rb hr).up (by decide)
def toldV (l : List (Nat × Nat × Nat)) : List V := l.flatMap fun y => [V.int (y.1 : Nat), V.int (y.2.1 : Nat), V.int (y.2.2 : Nat)]
theorem told_len (l : List (Nat × Nat × Nat)) : (toldV l).length = 3 * l.length := by
  induction l with
  | nil => rfl
  | cons a r ih =>
    show ([_, _, _] ++ toldV r).length = _
    rw [List.length_append, ih]
    show 3 + 3 * r.length = 3 * (r.length + 1)
    omega
/-- a strike leaves good works good -/
theorem struck_lt {s : State} (h : Good s) {i t n : Nat} {x : Mu07.Striker} (hx : s.works.strikers[i]? = some x) (hh : x.hand = none) : (struck s i n t).2 < x.numbers.length := by
  have := (h.wf.striker x (List.mem_of_getElem? hx)).2.2.1 hh
  unfold struck
  rw [hx]
  dsimp only
  rw [hh]
  exact Nat.mod_lt _ (by omega)
theorem Good.struck {s : State} (h : Good s) (i t : Nat) : Good { s with next := s.next.set i (struck s i (s.next.getD i 0) t).2 } := by
  refine ⟨h.wf, h.rates, h.lset, by show (s.next.set _ _).length = _; rw [List.length_set]; exact h.lnext, h.ldays, fun j x hx hh => ?_, h.now⟩
  have hj : j < s.next.length := by rw [h.lnext]; exact lt_of_get hx
  show (s.next.set i _).getD j 0 < _
  by_cases hi : i < s.next.length
  · rw [set_getD hi]
    split
    · rename_i e
      subst e
      exact struck_lt h hx hh
    · exact h.next j x hx hh
  · rw [List.set_eq_of_length_le (by omega)]
    exact h.next j x hx hh
section
variable {P : Program} {w : World} {K : PySem.W.Frag} {mg : Str → Option Value} {base : Heap} (T : Txt K mg)
def spGo : Sp := fun vs H Q _ => ∃ (L : Lay) (s : State) (n : Nat), vs = [.ref L.a, .int (n : Nat)] ∧ Std T H L s ∧ n ≤ 100000000000 ∧ AnsK T L H Q (step (some s) (.go n))
theorem ok_go : FnOk P w K mg base CX0 20 T.go.f T.go.fd ["works", "n"] (spGo T) := by
  refine T.go.F.ok sc_go (fun vs H Q E h => ?_) (fun cdv A outer s H vs Q E hr h => ?_)
  · obtain ⟨L, s, n, rfl, _⟩ := h
    rfl
  · obtain ⟨L, s, n, rfl, hS, hn, k⟩ := h
    refine ⟨_, (pss_cons (ps_set (i := 2) sc_go.nd rfl (Or.inl rfl) (pe_op op_add (pe_fld (pv 0) rfl) (pv 1)))
    (pss_cons (ps_if (pt_cmpR op_gt (pv 2) pe_int (nomark _))
    (pss_one (ps_ret (pe_lst (pa_cons (pe_un un_neg pe_int) pa_nil)))) pss_nil)
    (pss_cons (ps_set (i := 3) sc_go.nd rfl (Or.inl rfl) pe_int)
    (pss_cut (ps_for PassesOwn.never rfl (pi_list (pe_fld (pv 0) rfl)) (pg_name (i := 4) sc_go.nd rfl (Or.inl rfl))
    (pss_one (ps_set (i := 3) sc_go.nd rfl (Or.inl rfl) (pe_op op_add (pv 3) (pe_call (ok_lettings T) (hr.mono (by decide)) (by rfl) T.lettings.g T.lettings.F.kp T.lettings.b .nil pass0 (pa_cons (pe_fld (pv 4) rfl) (pa_cons (pe_fld (pv 0) rfl) (pa_cons (pv 2) pa_nil))))))))
    (pss_cons (ps_if (pt_cmpR op_gt (pv 3) pe_int (nomark _))
    (pss_one (ps_ret (pe_lst (pa_cons (pe_un un_neg pe_int) pa_nil)))) pss_nil)
    (pss_cons (ps_set (i := 5) sc_go.nd rfl (Or.inl rfl) (pe_lst pa_nil))
    (pss_cut (ps_for PassesOwn.never rfl (pi_range1 (by rfl) T.b_range (pa_cons (pe_callB call_len_seq (by rfl) T.b_len (by decide +kernel) (pa_cons (pe_fld (pv 0) rfl) pa_nil)) pa_nil)) (pg_name (i := 6) sc_go.nd rfl (Or.inl rfl))
    (pss_one (ps_for PassesOwn.never rfl (pi_list (pe_call (ok_letting_seconds T) (hr.mono (by decide)) (by rfl) T.letting_seconds.g T.letting_seconds.F.kp T.letting_seconds.b .nil pass0 (pa_cons (pe_fld (pe_ix ix_list (pe_fld (pv 0) rfl) (pv 6) (fun _ _ => rfl)) rfl) (pa_cons (pe_fld (pv 0) rfl) (pa_cons (pv 2) pa_nil))))) (pg_name (i := 7) sc_go.nd rfl (Or.inl rfl))
    (pss_one (ps_expr (pe_bm PySem.F.plainAttrs_list PySem.F.slot_list_append PySem.F.type_list_append mt_append (pv 5) (pa_cons (pe_tup (pa_cons (pv 7) (pa_cons (pv 6) pa_nil))) pa_nil)))))))
    (pss_cons (ps_set (i := 8) sc_go.nd rfl (Or.inl rfl) (pe_lst (pa_cons (pv 3) pa_nil)))
    (pss_cons (ps_for PassesOwn.never rfl (pi_list (pe_callB cr_sortedPO (by rfl) T.b_sorted (by decide +kernel) (pa_cons (pv 5) pa_nil))) (pg_name (i := 9) sc_go.nd rfl (Or.inl rfl))
    (pss_one (ps_expr (pe_bm PySem.F.plainAttrs_list PySem.F.slot_list_extend PySem.F.type_list_extend mt_extend (pv 8) (pa_cons (pe_lst (pa_cons (pe_ix ix_tup (pv 9) pe_int (fun _ _ => rfl)) (pa_cons (pe_ix ix_tup (pv 9) pe_int (fun _ _ => rfl)) (pa_cons (pe_call (ok_strike T) (hr.mono (by decide)) (by rfl) T.strike.g T.strike.F.kp T.strike.b .nil pass0 (pa_cons (pe_ix ix_list (pe_fld (pv 0) rfl) (pe_ix ix_tup (pv 9) pe_int (fun _ _ => rfl)) (fun _ _ => rfl)) (pa_cons (pe_ix ix_tup (pv 9) pe_int (fun _ _ => rfl)) pa_nil))) pa_nil)))) pa_nil)))))
    (pss_cons (ps_fld (pv 0) (pv 2) rfl)
    (pss_one (ps_ret (pv 8))))))))))))), ?_⟩
    have hst0 : step (some s) (.go n) = if 100000000000 < s.now + n then (some s, [-1]) else match Mu07.go s n with | none => (some s, [-3]) | some x => (some x.1, (x.2.length : Int) :: x.2.flatMap fun (y : Nat × Nat × Nat) => [(y.1 : Int), (y.2.1 : Int), (y.2.2 : Int)]) := rfl
    rw [go_is] at hst0
    have skl : L.sk.length = s.works.strikers.length := hS.w.lens.sk
    have nk := hS.g.wf.nk
    refine q_asg (v := .int ((s.now + n : Nat) : Int)) (ev_is (ev_i (ev_fld (ev_var rfl) (T.fd_works_now hS.w.w)) (ev_var rfl)) (congrArg V.int (Int.natCast_add _ _).symm)) fun H1 e1 => ?_
    refine q_when (b := decide (100000000000 < s.now + n)) (et_is (et_test (ev_i (ev_var rfl) ev_c)) (dlt (a := 100000000000))) (fun hb H2 e2 => ?_) (fun hb H2 e2 => ?_)
    · rw [if_pos (of_decide_eq_true hb)] at hst0
      exact s_retL (el_lst (ea_cons (ev_neg ev_c) ea_nil) (Nat.le_of_ble_eq_true rfl)) fun p H4 np e4 hp => k.keep hst0 (fresh_back (e1.trans e2) np) ((e1.trans e2).trans e4) hp hS.w
    have hle := of_decide_eq_false hb
    rw [if_neg hle] at hst0
    generalize hE : s.now + n = te at *
    have hte : te ≤ 100000000000 := by omega
    have hnow : s.now ≤ te := by omega
    have b0 := bt_time hS.g.now
    have b1 := bt_time hte
    have b0' := b0.up (b := 2000) (by decide)
    have b1' := b1.up (b := 2000) (by decide)
    have e02 := e1.trans e2
    refine q_asg ev_c fun H3 e3 => ?_
    have e03 := e02.trans e3
    have movOfS : ∀ (i : Nat) (p : Addr), L.sk[i]? = some p → ∃ (x : Mu07.Striker) (dx na q ns : Addr) (hd : V), s.works.strikers[i]? = some x ∧ H p = some (.ins T.Striker.C dx (strikerF na q ns hd (s.next.getD i 0 : Nat))) ∧ IsMov T.Mover.C H s 8 x.by_ q := fun i p hp => by
      obtain ⟨x, dx, na, q, ns, hd, k1, k2, k3, k4, _⟩ := hS.w.strks i p hp
      exact ⟨x, dx, na, q, ns, hd, k1, k2, hS.w.mov hS.g k3⟩
    -- how many
    refine q_cut (M := fun σ' H' => ∃ o, σ' = [some (.ref L.a), some (.int (n : Nat)), some (.int (te : Nat)), some (.int (totalTo s te s.works.strikers.length : Nat)), o, none, none, none, none, none] ∧ Ex H H') ?_ fun σ' H4 hM => ?_
    · refine s_forLn (ev_fld (ev_var rfl) (T.fd_works_strikers (e03 _ _ hS.w.w))) (SqL.of (e03 _ _ hS.w.lists.lk)) (fun i σ' H' => ∃ o, σ' = [some (.ref L.a), some (.int (n : Nat)), some (.int (te : Nat)), some (.int (totalTo s te i : Nat)), o, none, none, none, none, none] ∧ Ex H H') (fun H4 e4 => ⟨none, rfl, e03.trans e4⟩) (fun i σ' H' hi hP => ?_) (fun i x σ' H' hi hP => ?_) (fun σ' H' hP => ?_)
      · obtain ⟨o, rfl, e⟩ := hP
        exact SqL.of (e _ _ hS.w.lists.lk)
      · obtain ⟨o, rfl, e⟩ := hP
        obtain ⟨p, hp, rfl⟩ := refV_at hi
        obtain ⟨x, dx, na, q, ns, hd, k1, k2, k3⟩ := movOfS i p hp
        refine s_asg (v := .int ((totalTo s te (i + 1) : Nat) : Int)) (ev_is (ev_i (ev_var rfl) (ev_call (ea_cons (ev_fld (ev_var rfl) (T.fd_striker_mover (e _ _ k2))) (ea_cons (ev_fld (ev_var rfl) (T.fd_works_now (e _ _ hS.w.w))) (ea_cons (ev_var rfl) ea_nil))) (sv_of fun H5 e5 => ⟨s, x.by_, q, s.now, te, rfl, k3.ex (e.trans e5), b0', b1', rfl⟩))) (congrArg V.int (by rw [total_succ, offs_is k1]; omega))) fun H5 e5 => ⟨some (.ref p), rfl, e.trans e5⟩
      · obtain ⟨o, rfl, e⟩ := hP
        rw [refV_len, skl]
        exact ⟨o, rfl, e⟩
    obtain ⟨o4, rfl, e4⟩ := hM
    refine q_when (b := decide (400 < totalTo s te s.works.strikers.length)) (et_is (et_test (ev_i (ev_var rfl) ev_c)) (dlt (a := 400))) (fun hb H5 e5 => ?_) (fun hb H5 e5 => ?_)
    · rw [if_pos (of_decide_eq_true hb)] at hst0
      exact s_retL (el_lst (ea_cons (ev_neg ev_c) ea_nil) (Nat.le_of_ble_eq_true rfl)) fun p H6 np e6 hp => k.keep hst0 (fresh_back (e4.trans e5) np) ((e4.trans e5).trans e6) hp hS.w
    have hle4 := of_decide_eq_false hb
    rw [if_neg hle4] at hst0
    have e05 := e4.trans e5
    refine q_asgL (xs := []) (el_lst ea_nil (Nat.zero_le _)) fun ls H6 nls e6 hls => ?_
    have nls0 : H ls = none := fresh_back e05 nls
    have e06 := e05.trans e6
    -- the pairs
    refine q_cut (M := fun σ' H' => ∃ (ts : List Addr) (o5 o6 : Option V), σ' = [some (.ref L.a), some (.int (n : Nat)), some (.int (te : Nat)), some (.int (totalTo s te s.works.strikers.length : Nat)), o4, some (.ref ls), o5, o6, none, none] ∧ Ex H H' ∧ H' ls = some (.lst (refV ts)) ∧ TupsAt H' ts (pairsOf s te s.works.strikers.length)) ?_ fun σ' H7 hM => ?_
    · refine s_forR1 (n := (s.works.strikers.length : Int)) (ea_cons (ev_is (ev_len (ev_fld (ev_var rfl) (T.fd_works_strikers (e06 _ _ hS.w.w))) (SqL.of (e06 _ _ hS.w.lists.lk))) (by rw [refV_len, skl])) ea_nil) ⟨by omega, by omega⟩
        (fun i σ' H' => ∃ (ts : List Addr) (o5 o6 : Option V), σ' = [some (.ref L.a), some (.int (n : Nat)), some (.int (te : Nat)), some (.int (totalTo s te s.works.strikers.length : Nat)), o4, some (.ref ls), o5, o6, none, none] ∧ Ex H H' ∧ H' ls = some (.lst (refV ts)) ∧ TupsAt H' ts (pairsOf s te i))
        (fun H7 e7 => ⟨[], none, none, rfl, e06.trans e7, e7 _ _ hls, ⟨rfl, fun j t p a _ => by simp at a⟩⟩) (fun i σ' H' hi hP => ?_) (fun σ' H' hP => ?_)
      · obtain ⟨ts, o5, o6, rfl, e, hl, hT⟩ := hP
        have hi' : i < s.works.strikers.length := by omega
        have hip : i < L.sk.length := by omega
        have hp : L.sk[i]? = some L.sk[i] := List.getElem?_eq_getElem hip
        obtain ⟨x, dx, na, q, ns, hd, k1, k2, k3⟩ := movOfS i _ hp
        generalize L.sk[i] = p at *
        have ol : offsOf s x.by_ s.now te ≤ 400 := by
          have := offs_le_total (s := s) (t := te) hi'
          rw [offs_is k1] at this
          omega
        have sl : (secondsOf s x.by_ s.now te).length ≤ 400 := by
          unfold secondsOf
          rw [List.length_map, List.length_range]
          exact ol
        have pl : (pairsOf s te i).length ≤ 400 := by
          have h : ∀ m, m ≤ s.works.strikers.length → (pairsOf s te m).length = totalTo s te m := by
            intro m
            induction m with
            | zero => intro _; rfl
            | succ m ih =>
              intro hm
              have hx : s.works.strikers[m]? = some s.works.strikers[m] := List.getElem?_eq_getElem (by omega)
              unfold pairsOf at ih ⊢
              rw [List.range_succ, List.flatMap_append, List.length_append, ih (by omega), total_succ, offs_is hx]
              simp only [List.flatMap_cons, List.flatMap_nil, List.append_nil]
              rw [hx]
              dsimp only
              rw [List.length_map]
              unfold secondsOf
              rw [List.length_map, List.length_range]
          rw [h i (by omega)]
          have mono : ∀ a b, a ≤ b → totalTo s te a ≤ totalTo s te b := fun a b hab => by
            induction b with
            | zero => have : a = 0 := by omega
                      rw [this]; exact Nat.le_refl _
            | succ b ih =>
              by_cases h : a ≤ b
              · rw [total_succ]
                have := ih h
                omega
              · have : a = b + 1 := by omega
                rw [this]
                exact Nat.le_refl _
          have := mono i s.works.strikers.length (by omega)
          omega
        refine s_forNLn (K := K) (xs := natV (secondsOf s x.by_ s.now te)) (el_call (ea_cons (ev_fld (ev_ixL (j := i) (ev_fld (ev_var rfl) (T.fd_works_strikers (e _ _ hS.w.w))) (ev_var rfl) (SqL.of (e _ _ hS.w.lists.lk)) rfl (refV_get hp)) (T.fd_striker_mover (e _ _ k2))) (ea_cons (ev_fld (ev_var rfl) (T.fd_works_now (e _ _ hS.w.w))) (ea_cons (ev_var rfl) ea_nil))) (sl_of fun H8 e8 => ⟨s, x.by_, q, s.now, te, rfl, k3.ex (e.trans e8), b0, b1, hnow, ol, rfl⟩))
          (fun pz j σ' H' => ∃ (ts : List Addr) (o6 : Option V), σ' = [some (.ref L.a), some (.int (n : Nat)), some (.int (te : Nat)), some (.int (totalTo s te s.works.strikers.length : Nat)), o4, some (.ref ls), some (.int (i : Nat)), o6, none, none] ∧ Ex H H' ∧ H' pz = some (.lst (natV (secondsOf s x.by_ s.now te))) ∧ pz ≠ ls ∧ H' ls = some (.lst (refV ts)) ∧ TupsAt H' ts (pairsOf s te i ++ ((secondsOf s x.by_ s.now te).take j).map fun z => (z, i)))
          (fun pz H8 npz e8 hpz => ⟨ts, o6, rfl, e.trans e8, hpz, (fun z => by rw [z, hl] at npz; cases npz), e8 _ _ hl, by rw [List.take_zero, List.map_nil, List.append_nil]; exact hT.ex e8⟩) (fun pz j σ' H' _ hP => ?_) (fun pz j v σ' H' hj hP => ?_) (fun pz σ' H' hP => ?_)
        · obtain ⟨_, _, _, _, h, _⟩ := hP
          exact SqL.of h
        · obtain ⟨ts, o6, rfl, e, hpz, npz, hl, hT⟩ := hP
          obtain ⟨z, hz, rfl⟩ := map_get hj
          have tl : ts.length ≤ 900 := by
            rw [hT.len, List.length_append, List.length_map, List.length_take]
            omega
          refine s_appU hl (ev_var rfl) (eu_tup (ea_cons (ev_var rfl) (ea_cons (ev_var rfl) ea_nil)) (Nat.le_of_ble_eq_true rfl)) (by rw [refV_len]; omega) fun t H8 nt e8 ht => ⟨ts ++ [t], _, rfl, Ex.mut (e.trans e8) nls0, ?_, npz, grew, ?_⟩
          · rw [upd_ne npz]
            exact e8 _ _ hpz
          · rw [take_more hz, List.map_append, ← List.append_assoc]
            have tne : t ≠ ls := fun z => by rw [z, hl] at nt; cases nt
            exact (hT.ex e8).snoc (p := (z, i)) (e8 _ _ hl) (ExB.upd ls H8 _) (by rw [upd_ne tne]; exact ht)
        · obtain ⟨ts, o6, rfl, e, hpz, npz, hl, hT⟩ := hP
          have : (natV (secondsOf s x.by_ s.now te)).length = (secondsOf s x.by_ s.now te).length := List.length_map _
          rw [this, List.take_length] at hT
          refine ⟨ts, _, _, rfl, e, hl, ?_⟩
          have : pairsOf s te (i + 1) = pairsOf s te i ++ (secondsOf s x.by_ s.now te).map fun z => (z, i) := by
            unfold pairsOf
            rw [List.range_succ, List.flatMap_append]
            simp only [List.flatMap_cons, List.flatMap_nil, List.append_nil]
            rw [k1]
          rw [this]
          exact hT
      · obtain ⟨ts, o5, o6, rfl, e, hl, hT⟩ := hP
        have et : ((s.works.strikers.length : Int)).toNat = s.works.strikers.length := by omega
        rw [et] at hT
        exact ⟨ts, o5, o6, rfl, e, hl, hT⟩
    obtain ⟨ts, o5, o6, rfl, e7, hl7, hT7⟩ := hM
    refine q_asgL (xs := [V.int (totalTo s te s.works.strikers.length : Nat)]) (el_lst (ea_cons (ev_var rfl) ea_nil) (Nat.le_of_ble_eq_true rfl)) fun td H8 ntd e8 htd => ?_
    have e08 := e7.trans e8
    have ntd0 : H td = none := fresh_back e7 ntd
    have hT8 := hT7.ex e8
    have hl8 := e8 _ _ hl7
    have hA8 := hS.w.ex e08
    generalize hO : ordered (allOf s te) = O at *
    have On : O.length = totalTo s te s.works.strikers.length := by rw [← hO]; exact ordered_len
    have Op : ∀ y ∈ O, y.2.1 < s.works.strikers.length := fun y hy => by
      rw [← hO] at hy
      exact place_lt y ((List.mergeSort_perm (allOf s te) le3).mem_iff.mp hy)
    have run0 : ∀ i, i < s.works.strikers.length → RunI s i (s.next.getD i 0) (O.filter fun y => y.2.1 == i) (strikes s i te).2 := fun i hi => by
      rw [← hO]
      refine ordered_run hnow hi fun x hx => ?_
      have hp : L.sk[i]? = some (L.sk[i]'(by omega)) := List.getElem?_eq_getElem (by omega)
      obtain ⟨x', _, _, _, _, _, k1, _, k3⟩ := movOfS i _ hp
      rw [hx] at k1
      cases k1
      exact k3.deep
    -- the strikes in order
    refine q_forSorted (k := keyOf H8) (ev_var rfl) hl8 (fun x hx => ?_)
      (fun yl ys m σ' H' => ∃ (nx : List Nat) (o9 : Option V), σ' = [some (.ref L.a), some (.int (n : Nat)), some (.int (te : Nat)), some (.int (totalTo s te s.works.strikers.length : Nat)), o4, some (.ref ls), o5, o6, some (.ref td), o9] ∧ ys.map (keyOf H8) = O.map (fun y => zz (y.1, y.2.1)) ∧ (∀ x ∈ ys, x ∈ refV ts) ∧ KeptL (td :: L.sk) H8 H' ∧ H' yl = some (.lst ys) ∧ yl ∉ td :: L.sk ∧
        H' td = some (.lst (V.int (totalTo s te s.works.strikers.length : Nat) :: toldV (O.take m))) ∧ WAt T (hide td H') L { s with next := nx } ∧ Good { s with next := nx } ∧ nx.length = s.next.length ∧ (∀ i, i < s.works.strikers.length → RunI s i (nx.getD i 0) ((O.drop m).filter fun y => y.2.1 == i) (strikes s i te).2))
      (fun yl ys H9 s1 s2 nyl e9 hyl => ?_) (fun yl ys m σ' H' _ hP => ?_) (fun yl ys m x σ' H' hm hP => ?_) (fun yl ys σ' H' hP => ?_)
    · obtain ⟨t, ht, rfl⟩ := List.mem_map.mp hx
      obtain ⟨j, hj, ej⟩ := List.mem_iff_getElem.mp ht
      have hj2 : j < (pairsOf s te s.works.strikers.length).length := by rw [← hT8.len]; exact hj
      have := hT8.at_ j t _ (by rw [← ej]; exact List.getElem?_eq_getElem hj) (List.getElem?_eq_getElem hj2)
      refine ⟨t, rfl, ?_⟩
      rw [keyOf_at this]
      exact this
    · refine ⟨s.next, none, rfl, sorted_is (List.pairwise_map.mpr s1) (by rw [← hT8.keys]; exact s2.perm.map _) |>.trans (by rw [hO]), fun x hx => s2.perm.mem_iff.mp hx, KeptL.of e9, hyl, fun z => ?_, e9 _ _ htd, hS.w.ex (ex_hide ntd0 (e08.trans e9)), hS.g, rfl, run0⟩
      rcases List.mem_cons.mp z with z | z
      · rw [z, htd] at nyl
        cases nyl
      · exact (hA8.noSk nyl) z
    · obtain ⟨_, _, _, _, _, _, h, _⟩ := hP
      exact SqL.of h
    · obtain ⟨nx, o9, rfl, hys, hmem, hK, hyl, nyl, htd', hAh, hG', hnx, hrun⟩ := hP
      have hA' := hAh.ex hide_ex
      have hmO : m < O.length := by
        have := congrArg List.length hys
        rw [List.length_map, List.length_map] at this
        rw [← this]
        exact lt_of_get hm
      have hOm : O[m]? = some O[m] := List.getElem?_eq_getElem hmO
      have hkey : keyOf H8 x = zz (O[m].1, O[m].2.1) := by
        have h1 : (ys.map (keyOf H8))[m]? = some (keyOf H8 x) := by rw [List.getElem?_map, hm]; rfl
        rw [hys, List.getElem?_map, hOm] at h1
        exact (Option.some.inj h1).symm
      obtain ⟨t, ht, rfl⟩ := List.mem_map.mp (hmem x (List.mem_of_getElem? hm))
      obtain ⟨j, hj, ej⟩ := List.mem_iff_getElem.mp ht
      have hj2 : j < (pairsOf s te s.works.strikers.length).length := by rw [← hT8.len]; exact hj
      have htp := hT8.at_ j t _ (by rw [← ej]; exact List.getElem?_eq_getElem hj) (List.getElem?_eq_getElem hj2)
      have hk2 : keyOf H8 (.ref t) = (((pairsOf s te s.works.strikers.length)[j].1 : Int), ((pairsOf s te s.works.strikers.length)[j].2 : Int)) := keyOf_at htp
      have hOi := Op _ (List.mem_of_getElem? hOm)
      have htp : H8 t = some (.tup [.int (O[m].1 : Nat), .int (O[m].2.1 : Nat)]) := by
        rw [htp]
        rw [hkey] at hk2
        unfold zz at hk2
        injection hk2 with h1 h2
        rw [h1, h2]
      have htne : t ∉ td :: L.sk := fun z => by
        rcases List.mem_cons.mp z with z | z
        · rw [z, htd] at htp
          cases htp
        · obtain ⟨i, hi, e⟩ := List.mem_iff_getElem.mp z
          obtain ⟨_, _, _, _, _, _, _, h2, _⟩ := hA8.strks i t (by rw [← e]; exact List.getElem?_eq_getElem hi)
          rw [htp] at h2
          cases h2
      have htp' := hK t _ htp htne
      have hdrop : O.drop m = O[m] :: O.drop (m + 1) := List.drop_eq_getElem_cons hmO
      rw [hdrop] at hrun
      generalize O[m] = y at *
      have hsi : y.2.1 < L.sk.length := by omega
      have hsp : L.sk[y.2.1]? = some L.sk[y.2.1] := List.getElem?_eq_getElem hsi
      generalize L.sk[y.2.1] = sp at *
      obtain ⟨x0, _, _, _, _, _, kx, _, k3⟩ := movOfS y.2.1 sp hsp
      -- the second is small
      have hsec : Bt 2000 (y.1 : Int) := by
        have hin : y.1 ∈ secondsOf s x0.by_ s.now te := by
          have h1 : y ∈ (ordered (allOf s te)).filter (fun z => z.2.1 == y.2.1) := by
            rw [hO]
            exact List.mem_filter.mpr ⟨List.mem_of_getElem? hOm, by simp⟩
          rw [ordered_of hnow hOi (fun x hx => by rw [kx] at hx; cases hx; exact k3.deep)] at h1
          obtain ⟨z, hz, hzy⟩ := List.mem_map.mp h1
          have : y.1 = z.1 := by rw [← hzy]
          rw [this, ← strikes_fst kx]
          exact List.mem_map.mpr ⟨z, hz, rfl⟩
        exact secs_bt k3 b0 b1 hnow hin
      have hr1 := hrun y.2.1 hOi
      rw [List.filter_cons, if_pos (by simp)] at hr1
      obtain ⟨_, r2, r3⟩ := hr1
      refine s_ext3 (K := K) (sp := spStrike T) (v0 := .int (y.1 : Nat)) (v1 := .int (y.2.1 : Nat)) htd' (ev_var rfl) (ev_ixT (j := 0) (ev_var rfl) ev_c (SqT.of htp') rfl rfl) (ev_ixT (j := 1) (ev_var rfl) ev_c (SqT.of htp') rfl rfl)
        (ea_cons (ev_ixL (j := y.2.1) (ev_fld (ev_var rfl) (T.fd_works_strikers hA'.w)) (ev_ixT (j := 1) (ev_var rfl) ev_c (SqT.of htp') rfl rfl) (SqL.of hA'.lists.lk) rfl (refV_get hsp)) (ea_cons (ev_ixT (j := 0) (ev_var rfl) ev_c (SqT.of htp') rfl rfl) ea_nil)) fun H10 e10 => ⟨L, _, y.2.1, sp, y.1, rfl, hA'.ex e10, hG', hS.s.ok, hsp, hsec, fun H11 b11 ⟨dx1, na1, q1, ns1, hd1, o1, o2⟩ => ?_⟩
      have hstr : struck { s with next := nx } y.2.1 (nx.getD y.2.1 0) y.1 = struck s y.2.1 (nx.getD y.2.1 0) y.1 := struck_same (s := s) (s' := { s with next := nx }) ⟨rfl, rfl, rfl⟩ _ _ _
      have tds : td ≠ sp := fun z => by
        obtain ⟨_, _, _, _, _, _, _, h2, _⟩ := hA'.strks _ sp hsp
        rw [← z, htd'] at h2
        cases h2
      have htd11 := b11 td _ tds (e10 _ _ htd')
      refine ⟨Nat.le_of_ble_eq_true rfl, fun p np => ⟨td, p, _, _, rfl, rfl, by rw [upd_ne (fun z => by rw [← z, htd11] at np; cases np)]; exact htd11, upd_same, ?_, ?_⟩⟩
      · rw [List.length_cons, told_len, List.length_take]
        have hz : sizeLine = 16777216 := rfl
        show 3 * min m O.length + 1 + 3 ≤ sizeLine
        omega
      · show ∃ _ _, _
        have hx1 := Ex.new (o := .lst [V.int (y.1 : Nat), V.int (y.2.1 : Nat), V.int ((struck { s with next := nx } y.2.1 (nx.getD y.2.1 0) y.1).1 : Nat)]) np
        have hyl2 : y.2.1 < nx.length := by rw [hnx, hS.g.lnext]; exact hOi
        have td12 := hx1 _ _ htd11
        refine ⟨nx.set y.2.1 (struck s y.2.1 (nx.getD y.2.1 0) y.1).2, some (.ref t), rfl, hys, hmem, ?_, ?_, nyl, ?_, ?_, ?_, ?_, fun i hi => ?_⟩
        · have kk : KeptL (td :: L.sk) H11 (upd (upd H11 p (.lst [V.int (y.1 : Nat), V.int (y.2.1 : Nat), V.int ((struck { s with next := nx } y.2.1 (nx.getD y.2.1 0) y.1).1 : Nat)])) td (.lst ((V.int (totalTo s te s.works.strikers.length : Nat) :: toldV (O.take m)) ++ [V.int (y.1 : Nat), V.int (y.2.1 : Nat), V.int ((struck { s with next := nx } y.2.1 (nx.getD y.2.1 0) y.1).1 : Nat)]))) := (KeptL.of hx1).trans (KeptL.upd (List.mem_cons_self ..))
          exact ((hK.trans (KeptL.of e10)).trans (KeptL.ofB (List.mem_cons_of_mem _ (List.mem_of_getElem? hsp)) b11)).trans kk
        · have y1 : yl ≠ td := fun z => nyl (by rw [z]; exact List.mem_cons_self ..)
          have y2 : yl ≠ sp := fun z => nyl (List.mem_cons_of_mem _ (by rw [z]; exact List.mem_of_getElem? hsp))
          rw [upd_ne y1]
          exact hx1 _ _ (b11 _ _ y2 (e10 _ _ hyl))
        · rw [upd_same, take_more hOm, hstr, r2]
          unfold toldV
          rw [List.flatMap_append]
          rfl
        · rw [hide_upd]
          have B12 := hide_B (td := td) (b11.trans (ExB.of hx1))
          rw [hstr] at o2
          exact ((hAh.ex (hide_mono e10)).setNext (x := ⟨[], .arbor 0, [], none⟩) (s' := { s with next := nx.set y.2.1 (struck s y.2.1 (nx.getD y.2.1 0) y.1).2 }) hsp (by rw [hide_ne (Ne.symm tds)]; exact o1) B12 (by rw [hide_ne (Ne.symm tds)]; exact hx1 _ _ o2) rfl rfl rfl rfl rfl (fun j => set_getD hyl2))
        · have := hG'.struck y.2.1 y.1
          rw [hstr] at this
          exact this
        · rw [List.length_set]
          exact hnx
        · rw [set_getD hyl2]
          by_cases he : i = y.2.1
          · rw [if_pos he, he]
            exact r3
          · rw [if_neg he]
            have := hrun i hi
            rw [List.filter_cons, if_neg (by simp; exact fun z => he z.symm)] at this
            exact this
    · obtain ⟨nx, o9, rfl, hys, hmem, hK, hyl, nyl, htd', hAh, hG', hnx, hrun⟩ := hP
      have hA' := hAh.ex hide_ex
      have yln : ys.length = O.length := by
        have := congrArg List.length hys
        rw [List.length_map, List.length_map] at this
        exact this
      rw [yln, List.take_length] at htd'
      rw [yln, List.drop_length] at hrun
      have fin : ∀ i, i < s.works.strikers.length → nx.getD i 0 = (strikes s i te).2 := fun i hi => hrun i hi
      have w' := hA'.w
      refine q_stB w' (ExB.refl L.a H') (ev_var rfl) (ev_var rfl) T.Works.cl T.n_Works_now worksF_len fun H9 h9 b9 => ?_
      unfold worksL at h9
      rw [worksF_put_now] at h9
      obtain ⟨l1, l2, l3, l4, l5, l6, l7, l8⟩ := hAh.atWorks (hide_B b9)
      have tda : td ≠ L.a := fun z => by
        rw [z, w'] at htd'
        cases htd'
      have A9h : WAt T (hide td H9) L { s with next := nx, now := te } := ⟨by rw [hide_ne (Ne.symm tda)]; exact h9, l1, hA'.lens, l2, l3, l4, l5, l6, l7, l8⟩
      have A9 := A9h.ex hide_ex
      have kp9 : KeptL (chg L) H H9 := fun b o hb hn => by
        have h1 := e08 _ _ hb
        have ne1 : b ∉ td :: L.sk := fun z => by
          rcases List.mem_cons.mp z with z | z
          · rw [z, ntd0] at hb
            cases hb
          · exact hn (List.mem_cons_of_mem _ (List.mem_append_left _ (List.mem_append_right _ z)))
        exact b9 _ _ (fun z => hn (by rw [z]; exact List.mem_cons_self ..)) (hK _ _ h1 ne1)
      refine s_ret (ev_var rfl) fun H10 e10 => k.ret hst0 ntd0 (kp9.trans (KeptL.of e10)) ?_ ?_
      · rw [e10 _ _ (b9 _ _ tda htd')]
        congr 2
        show _ = zV (((O.length : Nat) : Int) :: O.flatMap _)
        rw [On]
        unfold zV toldV
        rw [List.map_cons, List.map_flatMap]
        rfl
      · refine (A9.ex e10).same rfl rfl (fun _ => rfl) (fun _ => rfl) (fun j => ?_) (fun _ => rfl)
        show ((List.range s.works.strikers.length).map fun (i : Nat) => (strikes s i te).2).getD j 0 = nx.getD j 0
        rw [List.getD_eq_getElem?_getD, List.getElem?_map]
        by_cases hj : j < s.works.strikers.length
        · rw [List.getElem?_range hj, fin j hj]
          rfl
        · rw [List.getElem?_eq_none (by simpa using hj), List.getD_eq_getElem?_getD, List.getElem?_eq_none (by rw [hnx, hS.g.lnext]; omega)]
          rfl
end
end Cw

/-! The walk through calls: a count astray; hands that meet; when; the date. -/
namespace Cw
open PySem PySem.Spec PyProof.Rows L2 Evl
open Mu07 (State Goes Works Star Q frac whole Bytes struck step Call Abs Ans meanOf turns reaches nextWhole told)
def liftsV (o : Option Nat) : Int := match o with
  | some k => (k : Int)
  | none => -1
def liftsOf (l : List Nat) (nx n : Nat) : Option Nat := (List.range l.length).find? fun (k : Nat) => l.getD ((nx + k) % l.length) 0 == n
section
variable {P : Program} {w : World} {K : PySem.W.Frag} {mg : Str → Option Value} {base : Heap} (T : Txt K mg)
def pLifts : List V → Hp → V → Prop := fun vs H z => ∃ (p dx na q ns : Addr) (hd : V) (nx n : Nat) (l : List Nat), vs = [.ref p, .int (n : Nat)] ∧ H p = some (.ins T.Striker.C dx (strikerF na q ns hd (nx : Nat))) ∧ H ns = some (.lst (byV l)) ∧ 1 ≤ l.length ∧ l.length ≤ 24 ∧ z = .int (liftsV (liftsOf l nx n))
theorem ok_lifts_needed : FnOk P w K mg base CX0 1 T.lifts_needed.f T.lifts_needed.fd ["striker", "number"] (spV (pLifts T)) := by
  refine T.lifts_needed.F.ok sc_lifts_needed (fun vs H Q E h => ?_) (fun cdv A outer s H vs Q E hr h => ?_)
  · obtain ⟨z, ⟨p, dx, na, q, ns, hd, nx, n, l, rfl, _⟩, _⟩ := h
    rfl
  · obtain ⟨z, ⟨p, dx, na, q, ns, hd, nx, n, l, rfl, hp, hn, l1, l2, rfl⟩, k⟩ := h
    refine ⟨_, (pss_cons (ps_set (i := 2) sc_lifts_needed.nd rfl (Or.inl rfl) (pe_callB call_len_seq (by rfl) T.b_len (by decide +kernel) (pa_cons (pe_fld (pv 0) rfl) pa_nil)))
    (pss_cons (ps_for PassesOwn.never rfl (pi_range1 (by rfl) T.b_range (pa_cons (pv 2) pa_nil)) (pg_name (i := 3) sc_lifts_needed.nd rfl (Or.inl rfl))
    (pss_one (ps_if (pt_cmpR op_eq (pe_ix ix_list (pe_fld (pv 0) rfl) (pe_op op_mod (pe_op op_add (pe_fld (pv 0) rfl) (pv 3)) (pv 2)) (fun _ _ => rfl)) (pv 1) (nomark _))
    (pss_one (ps_ret (pv 3))) pss_nil)))
    (pss_one (ps_ret (pe_un un_neg pe_int))))), ?_⟩
    refine q_asg (v := .int (l.length : Nat)) (ev_is (ev_len (ev_fld (ev_var rfl) (T.fd_striker_numbers hp)) (SqL.of hn)) (by rw [byV_len])) fun H1 e1 => ?_
    refine q_forR1 (n := (l.length : Int)) (ea_cons (ev_var rfl) ea_nil) ⟨by omega, by omega⟩ (fun i σ' H' => ∃ o, σ' = [some (.ref p), some (.int (n : Nat)), some (.int (l.length : Nat)), o] ∧ Ex H H' ∧ ∀ j, j < i → ¬ (l.getD ((nx + j) % l.length) 0 == n) = true)
      (fun H2 e2 => ⟨none, rfl, e1.trans e2, fun j hj => by omega⟩) (fun i σ' H' hi hP => ?_) (fun σ' H' hP => ?_)
    · obtain ⟨o, rfl, e, hz⟩ := hP
      have hi' : i < l.length := by omega
      have lt : (nx + i) % l.length < l.length := Nat.mod_lt _ (by omega)
      refine s_when (b := l.getD ((nx + i) % l.length) 0 == n) (et_is (et_test (ev_eqI (ev_ixL (j := (nx + i) % l.length) (ev_fld (ev_var rfl) (T.fd_striker_numbers (e _ _ hp))) (ev_is (ev_iC (ev_i (ev_fld (ev_var rfl) (T.fd_striker_place (e _ _ hp))) (ev_var rfl)) (ev_var rfl) (by show (0 : Int) < ((l.length : Nat) : Int); omega)) (congrArg V.int (show ((nx : Int) + (i : Int)) % ((l.length : Nat) : Int) = (((nx + i) % l.length : Nat) : Int) by rw [Int.natCast_emod, Int.natCast_add]))) (SqL.of (e _ _ hn)) rfl (byV_get lt)) (ev_var rfl))) (by
        by_cases h : l.getD ((nx + i) % l.length) 0 = n
        · rw [h]
          simp
        · have a : (l.getD ((nx + i) % l.length) 0 == n) = false := by simpa using h
          have b : ¬ ((l.getD ((nx + i) % l.length) 0 : Nat) : Int) = (n : Int) := by omega
          have c : (((l.getD ((nx + i) % l.length) 0 : Nat) : Int) == (n : Int)) = false := by simpa using b
          rw [a, c])) (fun hb H2 e2 => ?_) (fun hb H2 e2 => ?_)
      · have : liftsOf l nx n = some i := by
          unfold liftsOf
          rw [List.find?_range_eq_some]
          exact ⟨hb, by simpa using hi', fun j hj => by have := hz j hj; simpa using this⟩
        rw [this] at k
        exact s_ret (ev_var rfl) fun H3 e3 => k H3 ((e.trans e2).trans e3)
      · refine ⟨some (.int i), rfl, e.trans e2, fun j hj => ?_⟩
        by_cases h : j < i
        · exact hz j h
        · have : j = i := by omega
          subst this
          rw [hb]
          decide
    · obtain ⟨o, rfl, e, hz⟩ := hP
      have : liftsOf l nx n = none := by
        unfold liftsOf
        rw [List.find?_eq_none]
        intro j hj
        exact hz j (by have : j < l.length := by simpa using hj
                       omega)
      rw [this] at k
      exact s_ret (ev_neg ev_c) fun H3 e3 => k H3 (e.trans e3)
def pOnStar : List V → Hp → V → Prop := fun vs H z => ∃ (L : Lay) (s : State) (h : Nat) (p : Addr) (x : Mu07.Hand), vs = [.ref p] ∧ WAt T H L s ∧ L.ha[h]? = some p ∧ s.works.hands[h]? = some x ∧ z = .bl (match x.on with | .arbor _ => false | .star _ => true)
theorem ok_is_on_star : FnOk P w K mg base CX0 1 T.is_on_star.f T.is_on_star.fd ["hand"] (spV (pOnStar T)) := by
  refine T.is_on_star.F.ok sc_is_on_star (fun vs H Q E h => ?_) (fun cdv A outer s H vs Q E hr h => ?_)
  · obtain ⟨z, ⟨L, s, h, p, x, rfl, _⟩, _⟩ := h
    rfl
  · obtain ⟨z, ⟨L, s, h, p, x, rfl, hA, hp, hx, rfl⟩, k⟩ := h
    refine ⟨_, (pss_one (ps_ret (pe_cmpR op_notN (pe_fld (pe_fld (pv 0) rfl) rfl) pe_non (nomark _)))), ?_⟩
    obtain ⟨x', dx, na, q, k1, k2, k3, k4⟩ := hA.hands h p hp
    rw [hx] at k1
    cases k1
    cases ho : x.on with
    | arbor i =>
      rw [ho] at k3 k
      obtain ⟨_, dm, nm, _, hm, _⟩ := hA.arbs i q k3
      exact s_ret (ev_op (ev_fld (ev_fld (ev_var rfl) (T.fd_hand_mover k2)) (T.fd_mover_source hm)) ev_c rv_notN) k
    | star i =>
      rw [ho] at k3 k
      obtain ⟨y, dm, nm, q', _, hm, _⟩ := hA.stars i q k3
      refine s_ret (ev_is (ev_op (ev_fld (ev_fld (ev_var rfl) (T.fd_hand_mover k2)) (T.fd_mover_source hm)) ev_c rv_notN) (congrArg V.bl ?_)) k
      have : decide (V.ref q' = V.non) = false := decide_eq_false fun z => by cases z
      rw [this]
      rfl
def spAstray : Sp := fun vs H Q _ => ∃ (L : Lay) (s : State) (i h : Nat), vs = [.ref L.a, .int (i : Nat), .int (h : Nat)] ∧ Std T H L s ∧ AnsK T L H Q (step (some s) (.astray i h))
theorem ok_astray : FnOk P w K mg base CX0 19 T.astray.f T.astray.fd ["works", "s", "h"] (spAstray T) := by
  refine T.astray.F.ok sc_astray (fun vs H Q E h => ?_) (fun cdv A outer s H vs Q E hr h => ?_)
  · obtain ⟨L, s, i, h, rfl, _⟩ := h
    rfl
  · obtain ⟨L, s, i, h, rfl, hS, k⟩ := h
    refine ⟨_, (pss_cons (ps_if (PW.pt (pw_or (pt_cmpR op_ge (pv 1) (pe_callB call_len_seq (by rfl) T.b_len (by decide +kernel) (pa_cons (pe_fld (pv 0) rfl) pa_nil)) (nomark _)) (pw_or1 (pt_cmpR op_ge (pv 2) (pe_callB call_len_seq (by rfl) T.b_len (by decide +kernel) (pa_cons (pe_fld (pv 0) rfl) pa_nil)) (nomark _)))))
    (pss_one (ps_ret (pe_lst (pa_cons (pe_un un_neg pe_int) pa_nil)))) pss_nil)
    (pss_cons (ps_set (i := 3) sc_astray.nd rfl (Or.inl rfl) (pe_ix ix_list (pe_fld (pv 0) rfl) (pv 1) (fun _ _ => rfl)))
    (pss_cons (ps_if (pt_cmpR op_notN (pe_fld (pv 3) rfl) pe_non (nomark _))
    (pss_one (ps_ret (pe_lst (pa_cons (pe_un un_neg pe_int) pa_nil)))) pss_nil)
    (pss_cons (ps_if (pt_not (pt_val (pe_call (ok_turns_forward T) (hr.mono (by decide)) (by rfl) T.turns_forward.g T.turns_forward.F.kp T.turns_forward.b .nil pass0 (pa_cons (pe_fld (pv 3) rfl) pa_nil))))
    (pss_one (ps_ret (pe_lst (pa_cons (pe_un un_neg pe_int) pa_nil)))) pss_nil)
    (pss_cons (ps_set (i := 4) sc_astray.nd rfl (Or.inl rfl) (pe_call (ok_first_second T) (hr.mono (by decide)) (by rfl) T.first_second.g T.first_second.F.kp T.first_second.b .nil pass0 (pa_cons (pe_fld (pv 3) rfl) (pa_cons (pe_op op_add (pe_call (ok_whole_turns T) (hr.mono (by decide)) (by rfl) T.whole_turns.g T.whole_turns.F.kp T.whole_turns.b .nil pass0 (pa_cons (pe_fld (pv 3) rfl) (pa_cons (pe_fld (pv 0) rfl) pa_nil))) pe_int) pa_nil))))
    (pss_cons (ps_set (i := 5) sc_astray.nd rfl (Or.inl rfl) (pe_call (ok_struck_by T) (hr.mono (by decide)) (by rfl) T.struck_by.g T.struck_by.F.kp T.struck_by.b .nil pass0 (pa_cons (pe_ix ix_list (pe_fld (pv 0) rfl) (pv 2) (fun _ _ => rfl)) (pa_cons (pv 4) pa_nil))))
    (pss_cons (ps_set (i := 6) sc_astray.nd rfl (Or.inl rfl) (pe_call (ok_lifts_needed T) (hr.mono (by decide)) (by rfl) T.lifts_needed.g T.lifts_needed.F.kp T.lifts_needed.b .nil pass0 (pa_cons (pv 3) (pa_cons (pv 5) pa_nil))))
    (pss_cons (ps_if (pt_cmpR op_lt (pv 6) pe_int (nomark _))
    (pss_one (ps_ret (pe_lst (pa_cons (pe_un un_neg pe_int) pa_nil)))) pss_nil)
    (pss_one (ps_ret (pe_lst (pa_cons (pv 6) (pa_cons (pv 4) (pa_cons (pv 5) pa_nil)))))))))))))), ?_⟩
    have hst : step (some s) (.astray i h) = (some s, Mu07.astray s i h) := rfl
    have skl : L.sk.length = s.works.strikers.length := hS.w.lens.sk
    have hal : L.ha.length = s.works.hands.length := hS.w.lens.ha
    refine q_when (b := decide (s.works.strikers.length ≤ i) || decide (s.works.hands.length ≤ h)) (et_or (et_is (et_test (ev_i (ev_var rfl) (ev_len (ev_fld (ev_var rfl) (T.fd_works_strikers hS.w.w)) (SqL.of hS.w.lists.lk)))) (by rw [refV_len, skl]; exact dle)) fun _ => et_is (et_test (ev_i (ev_var rfl) (ev_len (ev_fld (ev_var rfl) (T.fd_works_hands hS.w.w)) (SqL.of hS.w.lists.lh)))) (by rw [refV_len, hal]; exact dle)) (fun hb H1 e1 => ?_) (fun hb H1 e1 => ?_)
    · have ha : Mu07.astray s i h = [-2] := by
        unfold Mu07.astray
        rcases Bool.or_eq_true_iff.mp hb with z | z
        · rw [List.getElem?_eq_none (of_decide_eq_true z)]
        · rw [List.getElem?_eq_none (l := s.works.hands) (of_decide_eq_true z)]
          cases s.works.strikers[i]? <;> rfl
      rw [ha] at hst
      exact s_retL (el_lst (ea_cons (ev_neg ev_c) ea_nil) (Nat.le_of_ble_eq_true rfl)) fun p H4 np e4 hp => k.keep hst (fresh_back e1 np) (e1.trans e4) hp hS.w
    rw [Bool.or_eq_false_iff] at hb
    have hi := of_decide_eq_false hb.1
    have hh := of_decide_eq_false hb.2
    have hS1 := hS.ex e1
    have hsp : L.sk[i]? = some (L.sk[i]'(by omega)) := List.getElem?_eq_getElem (by omega)
    have hhp : L.ha[h]? = some (L.ha[h]'(by omega)) := List.getElem?_eq_getElem (by omega)
    generalize L.sk[i]'(by omega) = sp at *
    generalize L.ha[h]'(by omega) = hpA at *
    obtain ⟨x, dx, na, q, ns, hd, k1, k2, k3, k4, k5, k6⟩ := hS1.w.strks i sp hsp
    obtain ⟨y, _, _, _, y1, _⟩ := hS1.w.hands h hpA hhp
    have hm := hS1.w.mov hS.g k3
    have har : Mu07.astray s i h = if x.hand.isSome = true then [-5] else match Mu07.nextOff s i with
        | none => [-6]
        | some t => match liftsOf x.numbers (s.next.getD i 0) (struckBy s h t) with
          | some k => [(k : Int), (t : Int), (struckBy s h t : Int)]
          | none => [-7] := by
      unfold Mu07.astray
      rw [k1, y1]
      dsimp only
      by_cases hx : x.hand.isSome = true
      · rw [if_pos hx, if_pos hx]
      · rw [if_neg hx, if_neg hx]
        cases Mu07.nextOff s i with
        | none => rfl
        | some t =>
          dsimp only
          unfold struckBy liftsOf
          rw [y1]
          rfl
    refine q_asg (ev_ixL (j := i) (ev_fld (ev_var rfl) (T.fd_works_strikers hS1.w.w)) (ev_var rfl) (SqL.of hS1.w.lists.lk) rfl (refV_get hsp)) fun H2 e2 => ?_
    have hdv : (!decide (hd = V.non)) = x.hand.isSome := by
      cases hx : x.hand with
      | none =>
        rw [(k5 hx).1]
        rfl
      | some j =>
        obtain ⟨hp, r1, _⟩ := k6 j hx
        rw [r1]
        have : decide (V.ref hp = V.non) = false := decide_eq_false fun z => by cases z
        rw [this]
        rfl
    refine q_when (b := x.hand.isSome) (et_test (ev_is (ev_op (ev_fld (ev_var rfl) (T.fd_striker_hand (e2 _ _ k2))) ev_c rv_notN) (congrArg V.bl hdv))) (fun hb H3 e3 => ?_) (fun hb H3 e3 => ?_)
    · rw [if_pos hb] at har
      rw [har] at hst
      have e03 := (e1.trans e2).trans e3
      exact s_retL (el_lst (ea_cons (ev_neg ev_c) ea_nil) (Nat.le_of_ble_eq_true rfl)) fun p H4 np e4 hp => k.keep hst (fresh_back e03 np) (e03.trans e4) hp hS.w
    rw [if_neg (by rw [hb]; decide)] at har
    have hxn : x.hand = none := by simpa using hb
    obtain ⟨_, n0, n1⟩ := k5 hxn
    have e13 := e2.trans e3
    have e03 := e1.trans e13
    have hno : Mu07.nextOff s i = reaches s 8 x.by_ (max 0 (turns s 8 x.by_ s.now + 1)).toNat := by
      unfold Mu07.nextOff
      rw [k1]
      rfl
    have msn := mean_sign 0 hm.deep
    refine q_when (b := !decide (0 < (meanOf s 8 x.by_).n)) (et_not (et_B (ev_call (ea_cons (ev_fld (ev_var rfl) (T.fd_striker_mover (e13 _ _ k2))) ea_nil) (sv_of fun H4 e4 => ⟨s, x.by_, q, rfl, hm.ex (e13.trans e4), rfl⟩)))) (fun hb2 H4 e4 => ?_) (fun hb2 H4 e4 => ?_)
    · have hn : ¬ 0 < (meanOf s 8 x.by_).n := by simpa using hb2
      have hr : Mu07.nextOff s i = none := by
        rw [hno, reach_eq _ hm.deep, down_same _ 0, if_pos (by
          have : ¬ 0 < (s.rates.getD (downTo s 8 x.by_ 0).1 (whole 0)).n := fun z => hn (msn.mpr z)
          omega)]
      rw [hr] at har
      rw [har] at hst
      exact s_retL (el_lst (ea_cons (ev_neg ev_c) ea_nil) (Nat.le_of_ble_eq_true rfl)) fun p H5 np e5 hp => k.keep hst (fresh_back (e03.trans e4) np) ((e03.trans e4).trans e5) hp hS.w
    have hpos : 0 < (meanOf s 8 x.by_).n := by simpa using hb2
    have rpos := msn.mp hpos
    have tnn : 0 ≤ turns s 8 x.by_ s.now := turns_fore 0 hm.deep (by omega)
    have emx : (max 0 (turns s 8 x.by_ s.now + 1)).toNat = (turns s 8 x.by_ s.now + 1).toNat := by omega
    rw [emx] at hno
    have er : turns s 8 x.by_ s.now + 1 = (((turns s 8 x.by_ s.now + 1).toNat : Nat) : Int) := by omega
    obtain ⟨sec, hsec⟩ := reach_some (turns s 8 x.by_ s.now + 1).toNat hm.deep (by rw [down_same _ 0]; exact rpos)
    have bn := bt_time hS.g.now
    have bt2 := bn.up (b := 2000) (by decide)
    have tb := turns_bdA bn hm
    have rb : Bt 498 (((turns s 8 x.by_ s.now + 1).toNat : Nat) : Int) := by
      rw [← er]
      exact tb.add ((small_bt (by decide) : Bt 37 (1 : Int)).up (by decide))
    have sb : Bt 2000 (sec : Int) := (reach_bd hm rb hsec).up (by decide)
    rw [hno, hsec] at har
    dsimp only at har
    have e14 := e13.trans e4
    have e04 := e03.trans e4
    refine q_asg (v := .int (sec : Nat)) (ev_call (ea_cons (ev_fld (ev_var rfl) (T.fd_striker_mover (e14 _ _ k2))) (ea_cons (ev_is (ev_i (ev_call (ea_cons (ev_fld (ev_var rfl) (T.fd_striker_mover (e14 _ _ k2))) (ea_cons (ev_fld (ev_var rfl) (T.fd_works_now (e04 _ _ hS.w.w))) ea_nil)) (sv_of fun H5 e5 => ⟨s, x.by_, q, s.now, rfl, hm.ex (e14.trans e5), bt2, rfl⟩)) ev_c) (congrArg V.int er)) ea_nil)) (sv_of fun H5 e5 => ⟨s, x.by_, q, _, sec, rfl, hm.ex (e14.trans e5), rb.up (by decide), hsec, rfl⟩)) fun H5 e5 => ?_
    have e05 := e04.trans e5
    have e15 := e14.trans e5
    refine q_asg (v := .int (struckBy s h sec : Nat)) (ev_call (ea_cons (ev_ixL (j := h) (ev_fld (ev_var rfl) (T.fd_works_hands (e05 _ _ hS.w.w))) (ev_var rfl) (SqL.of (e05 _ _ hS.w.lists.lh)) rfl (refV_get hhp)) (ea_cons (ev_var rfl) ea_nil)) (sv_of fun H6 e6 => ⟨s, h, hpA, sec, rfl, (hS.w.ex (e05.trans e6)).hand hS.g hS.s.ok hhp, sb, rfl⟩)) fun H6 e6 => ?_
    have e16 := e15.trans e6
    have e06 := e05.trans e6
    have nl := (hS.g.wf.striker x (List.mem_of_getElem? k1))
    have l1 := nl.2.2.1 hxn
    have l24 := nl.2.2.2.1
    refine q_asg (v := .int (liftsV (liftsOf x.numbers (s.next.getD i 0) (struckBy s h sec)))) (ev_call (ea_cons (ev_var rfl) (ea_cons (ev_var rfl) ea_nil)) (sv_of fun H7 e7 => ⟨sp, dx, na, q, ns, hd, s.next.getD i 0, struckBy s h sec, x.numbers, rfl, (e16.trans e7) _ _ k2, (e16.trans e7) _ _ n1, l1, l24, rfl⟩)) fun H7 e7 => ?_
    have e07 := e06.trans e7
    cases hlo : liftsOf x.numbers (s.next.getD i 0) (struckBy s h sec) with
    | none =>
      rw [hlo] at har
      rw [har] at hst
      refine q_when (b := true) (et_is (et_test (ev_i (ev_var rfl) ev_c)) rfl) (fun _ H8 e8 => ?_) (fun z => by cases z)
      exact s_retL (el_lst (ea_cons (ev_neg ev_c) ea_nil) (Nat.le_of_ble_eq_true rfl)) fun p H9 np e9 hp => k.keep hst (fresh_back (e07.trans e8) np) ((e07.trans e8).trans e9) hp hS.w
    | some m =>
      rw [hlo] at har
      rw [har] at hst
      refine q_when (b := false) (et_is (et_test (ev_i (ev_var rfl) ev_c)) (decide_eq_false (by show ¬ ((m : Int) < 0); omega))) (fun z => by cases z) (fun _ H8 e8 => ?_)
      exact s_retL (el_lst (ea_cons (ev_var rfl) (ea_cons (ev_var rfl) (ea_cons (ev_var rfl) ea_nil))) (Nat.le_of_ble_eq_true rfl)) fun p H9 np e9 hp => k.keep hst (fresh_back (e07.trans e8) np) ((e07.trans e8).trans e9) hp hS.w
end
end Cw

/-! The walk through calls: hands that meet; when; the date. -/
namespace Cw
open PySem PySem.Spec PyProof.Rows L2 Evl
open Mu07 (State Goes Works Star Q frac whole Bytes struck step Call Abs Ans meanOf turns reaches nextWhole told exact)
theorem bt_mul_small {a b : Int} {n : Nat} (h : (a * b).natAbs ≤ n) (hn : n < 2 ^ 200) : Bt 200 (a * b) := Nat.lt_of_le_of_lt h hn
/-- the start of two hands apart, of a hand and a mark -/
theorem start_bd {n d : Int} (hd : d ≠ 0) (hn : Bt 199 n) (hd2 : Bt 199 d) : 0 < ((frac n d).d : Int) ∧ Bt 200 (frac n d).n ∧ Bt 200 ((frac n d).d : Int) := by
  obtain ⟨a, b⟩ := frac_bd (n := n) hd
  have p := (frac_nm n d).pos
  refine ⟨by omega, (show Bt 199 _ from Nat.lt_of_le_of_lt a hn).up (by decide), (show Bt 199 _ from Nat.lt_of_le_of_lt (by omega) hd2).up (by decide)⟩
theorem next_of {a r : Q} {st : Q} {now : Int} (ha : Nm a) (hr : Nm r) (hs : Nm st) (hv : val a = val st + val r * (now : Rat)) (h0 : r.n ≠ 0) : ∃ t, nextWhole a r = some t ∧ (whole now).plus t = frac (nextZ st.n (st.d : Int) r.n r.d now).1 (nextZ st.n (st.d : Int) r.n r.d now).2 :=
  next_eq ha hr (by have := hs.pos; omega) hv h0
theorem next_none {a r : Q} (h : r.n = 0) : nextWhole a r = none := by
  unfold nextWhole
  rw [if_pos]
  show (r.n == 0) = true
  rw [h]
  rfl
theorem exact_arbor {s : State} {h i : Nat} {x : Mu07.Hand} (hx : s.works.hands[h]? = some x) (ho : x.on = .arbor i) : exact s h = some ((frac ((x.first : Int) + s.set.getD h 0) (x.marks : Int)).plus ((rateQ s i).times (whole (s.now : Int))), rateQ s i) := by
  unfold exact
  rw [hx]
  dsimp only
  rw [ho]
  rfl
theorem exact_star {s : State} {h i : Nat} {x : Mu07.Hand} (hx : s.works.hands[h]? = some x) (ho : x.on = .star i) : exact s h = none := by
  unfold exact
  rw [hx]
  dsimp only
  rw [ho]
theorem exact_val {o : Int} {m : Nat} {r : Q} {now : Int} (hr : Nm r) : val ((frac o (m : Int)).plus (r.times (whole now))) = (o : Rat) / ((m : Int) : Rat) + val r * (now : Rat) := by
  rw [plus_val (frac_nm _ _) (times_nm _ _), frac_val, times_val hr (whole_nm _), whole_val]
theorem rat_apart {a b c d x y n : Rat} (hb : b ≠ 0) (hd : d ≠ 0) : a / b + x * n - (c / d + y * n) = (a * d - c * b) / (b * d) + (x - y) * n := by grind
theorem rat_mark {a b m x n : Rat} (hb : b ≠ 0) : a / b + x * n - m / b = (a - m) / b + x * n := by grind
section
variable {P : Program} {w : World} {K : PySem.W.Frag} {mg : Str → Option Value} {base : Heap} (T : Txt K mg)
def spMeets : Sp := fun vs H Q _ => ∃ (L : Lay) (s : State) (g h : Nat), vs = [.ref L.a, .int (g : Nat), .int (h : Nat)] ∧ Std T H L s ∧ AnsK T L H Q (step (some s) (.meets g h))
theorem ok_meets : FnOk P w K mg base CX0 11 T.meets.f T.meets.fd ["works", "g", "h"] (spMeets T) := by
  refine T.meets.F.ok sc_meets (fun vs H Q E h => ?_) (fun cdv A outer s H vs Q E hr h => ?_)
  · obtain ⟨L, s, g, h, rfl, _⟩ := h
    rfl
  · obtain ⟨L, s, g, h, rfl, hS, k⟩ := h
    refine ⟨_, (pss_cons (ps_if (PW.pt (pw_or (pt_cmpR op_ge (pv 1) (pe_callB call_len_seq (by rfl) T.b_len (by decide +kernel) (pa_cons (pe_fld (pv 0) rfl) pa_nil)) (nomark _)) (pw_or1 (pt_cmpR op_ge (pv 2) (pe_callB call_len_seq (by rfl) T.b_len (by decide +kernel) (pa_cons (pe_fld (pv 0) rfl) pa_nil)) (nomark _)))))
    (pss_one (ps_ret (pe_lst (pa_cons (pe_un un_neg pe_int) pa_nil)))) pss_nil)
    (pss_cons (ps_set (i := 3) sc_meets.nd rfl (Or.inl rfl) (pe_ix ix_list (pe_fld (pv 0) rfl) (pv 1) (fun _ _ => rfl)))
    (pss_cons (ps_set (i := 4) sc_meets.nd rfl (Or.inl rfl) (pe_ix ix_list (pe_fld (pv 0) rfl) (pv 2) (fun _ _ => rfl)))
    (pss_cons (ps_if (PW.pt (pw_or (pt_val (pe_call (ok_is_on_star T) (hr.mono (by decide)) (by rfl) T.is_on_star.g T.is_on_star.F.kp T.is_on_star.b .nil pass0 (pa_cons (pv 3) pa_nil))) (pw_or1 (pt_val (pe_call (ok_is_on_star T) (hr.mono (by decide)) (by rfl) T.is_on_star.g T.is_on_star.F.kp T.is_on_star.b .nil pass0 (pa_cons (pv 4) pa_nil))))))
    (pss_one (ps_ret (pe_lst (pa_cons (pe_un un_neg pe_int) pa_nil)))) pss_nil)
    (pss_cons (ps_set (i := 5) sc_meets.nd rfl (Or.inl rfl) (pe_call (ok_rate_of T) (hr.mono (by decide)) (by rfl) T.rate_of.g T.rate_of.F.kp T.rate_of.b .nil pass0 (pa_cons (pe_fld (pv 3) rfl) pa_nil)))
    (pss_cons (ps_set (i := 6) sc_meets.nd rfl (Or.inl rfl) (pe_call (ok_rate_of T) (hr.mono (by decide)) (by rfl) T.rate_of.g T.rate_of.F.kp T.rate_of.b .nil pass0 (pa_cons (pe_fld (pv 4) rfl) pa_nil)))
    (pss_cons (ps_set (i := 7) sc_meets.nd rfl (Or.inl rfl) (pe_call (ok_lowest T) (hr.mono (by decide)) (by rfl) T.lowest.g T.lowest.F.kp T.lowest.b .nil pass0 (pa_cons (pe_op op_sub (pe_op op_mulW (pe_ix ix_tup (pv 5) pe_int (fun _ _ => rfl)) (pe_ix ix_tup (pv 6) pe_int (fun _ _ => rfl))) (pe_op op_mulW (pe_ix ix_tup (pv 6) pe_int (fun _ _ => rfl)) (pe_ix ix_tup (pv 5) pe_int (fun _ _ => rfl)))) (pa_cons (pe_op op_mulW (pe_ix ix_tup (pv 5) pe_int (fun _ _ => rfl)) (pe_ix ix_tup (pv 6) pe_int (fun _ _ => rfl))) pa_nil))))
    (pss_cons (ps_if (pt_cmpR op_eq (pe_ix ix_tup (pv 7) pe_int (fun _ _ => rfl)) pe_int (nomark _))
    (pss_one (ps_ret (pe_lst (pa_cons (pe_un un_neg pe_int) pa_nil)))) pss_nil)
    (pss_cons (ps_set (i := 8) sc_meets.nd rfl (Or.inl rfl) (pe_call (ok_lowest T) (hr.mono (by decide)) (by rfl) T.lowest.g T.lowest.F.kp T.lowest.b .nil pass0 (pa_cons (pe_op op_sub (pe_op op_mulW (pe_fld (pv 3) rfl) (pe_fld (pv 4) rfl)) (pe_op op_mulW (pe_fld (pv 4) rfl) (pe_fld (pv 3) rfl))) (pa_cons (pe_op op_mulW (pe_fld (pv 3) rfl) (pe_fld (pv 4) rfl)) pa_nil))))
    (pss_cons (ps_set (i := 9) sc_meets.nd rfl (Or.inl rfl) (pe_call (ok_next_whole T) (hr.mono (by decide)) (by rfl) T.next_whole.g T.next_whole.F.kp T.next_whole.b .nil pass0 (pa_cons (pv 8) (pa_cons (pv 7) (pa_cons (pe_fld (pv 0) rfl) pa_nil)))))
    (pss_one (ps_ret (pe_lst (pa_cons pe_int (pa_cons (pe_ix ix_tup (pv 9) pe_int (fun _ _ => rfl)) (pa_cons (pe_ix ix_tup (pv 9) pe_int (fun _ _ => rfl)) pa_nil)))))))))))))))), ?_⟩
    have hst : step (some s) (.meets g h) = (some s, Mu07.meets s g h) := rfl
    have hme : Mu07.meets s g h = if s.works.hands.length ≤ g ∨ s.works.hands.length ≤ h then [-2] else match exact s g, exact s h with
      | some x, some y => match nextWhole (x.1.less y.1) (x.2.less y.2) with
        | some t => 0 :: told ((whole (s.now : Int)).plus t)
        | none => [-6]
      | _, _ => [-5] := rfl
    have hal : L.ha.length = s.works.hands.length := hS.w.lens.ha
    refine q_when (b := decide (s.works.hands.length ≤ g) || decide (s.works.hands.length ≤ h)) (et_or (et_is (et_test (ev_i (ev_var rfl) (ev_len (ev_fld (ev_var rfl) (T.fd_works_hands hS.w.w)) (SqL.of hS.w.lists.lh)))) (by rw [refV_len, hal]; exact dle)) fun _ => et_is (et_test (ev_i (ev_var rfl) (ev_len (ev_fld (ev_var rfl) (T.fd_works_hands hS.w.w)) (SqL.of hS.w.lists.lh)))) (by rw [refV_len, hal]; exact dle)) (fun hb H1 e1 => ?_) (fun hb H1 e1 => ?_)
    · rw [if_pos (by
        rcases Bool.or_eq_true_iff.mp hb with z | z
        · exact Or.inl (of_decide_eq_true z)
        · exact Or.inr (of_decide_eq_true z))] at hme
      rw [hme] at hst
      exact s_retL (el_lst (ea_cons (ev_neg ev_c) ea_nil) (Nat.le_of_ble_eq_true rfl)) fun p H4 np e4 hp => k.keep hst (fresh_back e1 np) (e1.trans e4) hp hS.w
    rw [Bool.or_eq_false_iff] at hb
    have hg := of_decide_eq_false hb.1
    have hh := of_decide_eq_false hb.2
    rw [if_neg (by rintro (z | z); exact hg z; exact hh z)] at hme
    have hgp : L.ha[g]? = some (L.ha[g]'(by omega)) := List.getElem?_eq_getElem (by omega)
    have hhp : L.ha[h]? = some (L.ha[h]'(by omega)) := List.getElem?_eq_getElem (by omega)
    generalize L.ha[g]'(by omega) = gp at *
    generalize L.ha[h]'(by omega) = hpA at *
    obtain ⟨x, dx, na, q, x1, x2, x3, _⟩ := hS.w.hands g gp hgp
    obtain ⟨y, dy, nb, r, y1, y2, y3, _⟩ := hS.w.hands h hpA hhp
    obtain ⟨_, mx1, mx2, fx⟩ := hS.g.wf.hand x (List.mem_of_getElem? x1)
    obtain ⟨_, my1, my2, fy⟩ := hS.g.wf.hand y (List.mem_of_getElem? y1)
    refine q_asg (ev_ixL (j := g) (ev_fld (ev_var rfl) (T.fd_works_hands (e1 _ _ hS.w.w))) (ev_var rfl) (SqL.of (e1 _ _ hS.w.lists.lh)) rfl (refV_get hgp)) fun H2 e2' => ?_
    have e2 := e1.trans e2'
    refine q_asg (ev_ixL (j := h) (ev_fld (ev_var rfl) (T.fd_works_hands (e2 _ _ hS.w.w))) (ev_var rfl) (SqL.of (e2 _ _ hS.w.lists.lh)) rfl (refV_get hhp)) fun H3 e3' => ?_
    have e3 := e2.trans e3'
    refine q_when (b := (match x.on with | .arbor _ => false | .star _ => true) || (match y.on with | .arbor _ => false | .star _ => true)) (et_or (et_B (ev_call (ea_cons (ev_var rfl) ea_nil) (sv_of fun H4 e4 => ⟨L, s, g, gp, x, rfl, hS.w.ex (e3.trans e4), hgp, x1, rfl⟩))) fun _ => et_B (ev_call (ea_cons (ev_var rfl) ea_nil) (sv_of fun H4 e4 => ⟨L, s, h, hpA, y, rfl, hS.w.ex (e3.trans e4), hhp, y1, rfl⟩))) (fun hb H4 e4' => ?_) (fun hb H4 e4' => ?_)
    · have hm5 : Mu07.meets s g h = [-5] := by
        rw [hme]
        cases hx : x.on with
        | star i =>
          rw [exact_star x1 hx]
        | arbor i =>
          cases hy : y.on with
          | star j =>
            rw [exact_star y1 hy]
            cases exact s g <;> rfl
          | arbor j =>
            rw [hx, hy] at hb
            cases hb
      rw [hm5] at hst
      have e4 := e3.trans e4'
      exact s_retL (el_lst (ea_cons (ev_neg ev_c) ea_nil) (Nat.le_of_ble_eq_true rfl)) fun p H5 np e5 hp => k.keep hst (fresh_back e4 np) (e4.trans e5) hp hS.w
    have e4 := e3.trans e4'
    obtain ⟨i, hi⟩ : ∃ i, x.on = .arbor i := by
      cases hx : x.on with
      | arbor i => exact ⟨i, rfl⟩
      | star i =>
        rw [hx] at hb
        cases hb
    obtain ⟨j, hj⟩ : ∃ j, y.on = .arbor j := by
      cases hy : y.on with
      | arbor i => exact ⟨i, rfl⟩
      | star i =>
        rw [hi, hy] at hb
        cases hb
    rw [exact_arbor x1 hi, exact_arbor y1 hj] at hme
    dsimp only at hme
    have hmx := hS.w.mov hS.g x3
    have hmy := hS.w.mov hS.g y3
    rw [hi] at hmx
    rw [hj] at hmy
    have ri : RateOk (rateQ s i) := hS.g.rates i
    have rj : RateOk (rateQ s j) := hS.g.rates j
    refine q_asgU (xs := fracV (rateQ s i)) (eu_call (ea_cons (ev_fld (ev_var rfl) (T.fd_hand_mover (e4 _ _ x2))) ea_nil) (su_of fun H5 e5 => ⟨s, .arbor i, q, rfl, hmx.ex (e4.trans e5), rfl⟩)) fun u H5 nu e5' hu => ?_
    have e5 := e4.trans e5'
    refine q_asgU (xs := fracV (rateQ s j)) (eu_call (ea_cons (ev_fld (ev_var rfl) (T.fd_hand_mover (e5 _ _ y2))) ea_nil) (su_of fun H6 e6 => ⟨s, .arbor j, r, rfl, hmy.ex (e5.trans e6), rfl⟩)) fun v H6 nv e6' hv => ?_
    have e6 := e5.trans e6'
    have hu6 := e6' _ _ hu
    have i1 := ri.2.1
    have i2 := ri.2.2
    have j1 := rj.2.1
    have j2 := rj.2.2
    have ipos := ri.1.pos
    have jpos := rj.1.pos
    have dn0 : ((rateQ s i).d : Int) * ((rateQ s j).d : Int) ≠ 0 := Int.mul_ne_zero (by omega) (by omega)
    have dsm : Sm (((rateQ s i).d : Int) * ((rateQ s j).d : Int)) := (i2.mul j2).sm (by decide)
    refine q_asgU (xs := fracV ((rateQ s i).less (rateQ s j))) (eu_call (ea_cons (ev_i (ev_iC (ev_ixT (j := 0) (ev_var rfl) ev_c (SqT.of hu6) rfl rfl) (ev_ixT (j := 1) (ev_var rfl) ev_c (SqT.of hv) rfl rfl) (i1.cmul j2 (by decide) (by decide) (by decide))) (ev_iC (ev_ixT (j := 0) (ev_var rfl) ev_c (SqT.of hv) rfl rfl) (ev_ixT (j := 1) (ev_var rfl) ev_c (SqT.of hu6) rfl rfl) (j1.cmul i2 (by decide) (by decide) (by decide))))
      (ea_cons (ev_iC (ev_ixT (j := 1) (ev_var rfl) ev_c (SqT.of hu6) rfl rfl) (ev_ixT (j := 1) (ev_var rfl) ev_c (SqT.of hv) rfl rfl) (i2.cmul j2 (by decide) (by decide) (by decide))) ea_nil)) (su_of fun H7 e7 => ⟨_, _, rfl, dn0, dsm, rfl⟩)) fun ap H7 nap e7' hap => ?_
    have e7 := e6.trans e7'
    have nmr := less_nm (rateQ s i) (rateQ s j)
    have rb : Bt 2000 ((rateQ s i).less (rateQ s j)).n ∧ Bt 2000 ((((rateQ s i).less (rateQ s j)).d : Nat) : Int) := by
      have hf := frac_bd (n := (rateQ s i).n * ((rateQ s j).d : Int) - (rateQ s j).n * ((rateQ s i).d : Int)) dn0
      have m := ((i1.mul j2)).sub ((j1.mul i2))
      have m2 := i2.mul j2
      refine ⟨(show Bt 921 _ from Nat.lt_of_le_of_lt hf.1 m).up (by decide), (show Bt 920 _ from Nat.lt_of_le_of_lt ?_ m2).up (by decide)⟩
      have := hf.2
      show (((frac _ _).d : Nat) : Int).natAbs ≤ _
      omega
    generalize hrr : (rateQ s i).less (rateQ s j) = rr at *
    refine q_when (b := rr.n == 0) (et_test (ev_eqI (ev_ixT (j := 0) (ev_var rfl) ev_c (SqT.of hap) rfl rfl) ev_c)) (fun hb H8 e8' => ?_) (fun hb H8 e8' => ?_)
    · have h0 : rr.n = 0 := by simpa using hb
      rw [next_none h0] at hme
      rw [hme] at hst
      have e8 := e7.trans e8'
      exact s_retL (el_lst (ea_cons (ev_neg ev_c) ea_nil) (Nat.le_of_ble_eq_true rfl)) fun p H9 np e9 hp => k.keep hst (fresh_back e8 np) (e8.trans e9) hp hS.w
    have h0 : rr.n ≠ 0 := by simpa using hb
    have e8 := e7.trans e8'
    have sg := hS.s g
    have sh := hS.s h
    generalize ho1 : (x.first : Int) + s.set.getD g 0 = o1 at *
    generalize ho2 : (y.first : Int) + s.set.getD h 0 = o2 at *
    have b1 : o1.natAbs ≤ 1001000 := by omega
    have b2 : o2.natAbs ≤ 1001000 := by omega
    have c1 : Bt 37 o1 := small_bt (by omega)
    have c2 : Bt 37 o2 := small_bt (by omega)
    have d1 := marks_bt mx2
    have d2 := marks_bt my2
    have mm0 : (x.marks : Int) * (y.marks : Int) ≠ 0 := Int.mul_ne_zero (by omega) (by omega)
    have mmb := d1.mul d2
    have nb := (c1.mul d2).sub (c2.mul d1)
    obtain ⟨sp, sb1, sb2⟩ := start_bd mm0 (nb.up (by decide)) (mmb.up (by decide))
    refine q_asgU (xs := fracV (frac (o1 * (y.marks : Int) - o2 * (x.marks : Int)) ((x.marks : Int) * (y.marks : Int)))) (eu_call (ea_cons (ev_i (ev_iC (ev_fld (ev_var rfl) (T.fd_hand_offset (e8 _ _ x2))) (ev_fld (ev_var rfl) (T.fd_hand_marks (e8 _ _ y2))) (c1.cmul d2 (by decide) (by decide) (by decide))) (ev_iC (ev_fld (ev_var rfl) (T.fd_hand_offset (e8 _ _ y2))) (ev_fld (ev_var rfl) (T.fd_hand_marks (e8 _ _ x2))) (c2.cmul d1 (by decide) (by decide) (by decide))))
      (ea_cons (ev_iC (ev_fld (ev_var rfl) (T.fd_hand_marks (e8 _ _ x2))) (ev_fld (ev_var rfl) (T.fd_hand_marks (e8 _ _ y2))) (d1.cmul d2 (by decide) (by decide) (by decide))) ea_nil)) (su_of fun H9 e9 => ⟨_, _, rfl, mm0, mmb.sm (by decide), rfl⟩)) fun stA H9 nst e9' hstA => ?_
    have e9 := e8.trans e9'
    have hap9 := (e8'.trans e9') _ _ hap
    have snm := frac_nm (o1 * (y.marks : Int) - o2 * (x.marks : Int)) ((x.marks : Int) * (y.marks : Int))
    have sval := frac_val (o1 * (y.marks : Int) - o2 * (x.marks : Int)) ((x.marks : Int) * (y.marks : Int))
    generalize frac (o1 * (y.marks : Int) - o2 * (x.marks : Int)) ((x.marks : Int) * (y.marks : Int)) = st at *
    obtain ⟨t, ht1, ht2⟩ := next_of (a := ((frac o1 (x.marks : Int)).plus ((rateQ s i).times (whole (s.now : Int)))).less ((frac o2 (y.marks : Int)).plus ((rateQ s j).times (whole (s.now : Int))))) (r := rr) (st := st) (now := (s.now : Int)) (less_nm _ _) nmr snm (by
      rw [less_val (plus_nm _ _) (plus_nm _ _), exact_val ri.1, exact_val rj.1, sval, ← hrr, less_val ri.1 rj.1]
      have z1 := cast_ne (show (x.marks : Int) ≠ 0 by omega)
      have z2 := cast_ne (show (y.marks : Int) ≠ 0 by omega)
      simp only [Rat.intCast_sub, Rat.intCast_mul]
      exact rat_apart z1 z2) h0
    rw [ht1] at hme
    dsimp only at hme
    rw [ht2] at hme
    rw [hme] at hst
    refine q_asgU (eu_call (ea_cons (ev_var rfl) (ea_cons (ev_var rfl) (ea_cons (ev_fld (ev_var rfl) (T.fd_works_now (e9 _ _ hS.w.w))) ea_nil))) (su_of fun H10 e10 => ⟨stA, ap, st.n, (st.d : Int), rr.n, (rr.d : Int), (s.now : Int), rfl, e10 _ _ hstA, e10 _ _ hap9, sp, by have := nmr.pos; omega, h0, sb1, sb2, rb.1, rb.2, (bt_time hS.g.now).up (by decide), rfl⟩)) fun mo H10 nmo e10' hmo => ?_
    have e10 := e9.trans e10'
    exact s_retL (el_lst (ea_cons ev_c (ea_cons (ev_ixT (j := 0) (ev_var rfl) ev_c (SqT.of hmo) rfl rfl) (ea_cons (ev_ixT (j := 1) (ev_var rfl) ev_c (SqT.of hmo) rfl rfl) ea_nil))) (Nat.le_of_ble_eq_true rfl)) fun p H11 np e11 hp => k.keep hst (fresh_back e10 np) (e10.trans e11) hp hS.w
def spWhen : Sp := fun vs H Q _ => ∃ (L : Lay) (s : State) (h m : Nat), vs = [.ref L.a, .int (h : Nat), .int (m : Nat)] ∧ Std T H L s ∧ AnsK T L H Q (step (some s) (.when_ h m))
theorem ok_when : FnOk P w K mg base CX0 11 T.when.f T.when.fd ["works", "h", "m"] (spWhen T) := by
  refine T.when.F.ok sc_when (fun vs H Q E h => ?_) (fun cdv A outer s H vs Q E hr h => ?_)
  · obtain ⟨L, s, h, m, rfl, _⟩ := h
    rfl
  · obtain ⟨L, s, h, m, rfl, hS, k⟩ := h
    refine ⟨_, (pss_cons (ps_if (pt_cmpR op_ge (pv 1) (pe_callB call_len_seq (by rfl) T.b_len (by decide +kernel) (pa_cons (pe_fld (pv 0) rfl) pa_nil)) (nomark _))
    (pss_one (ps_ret (pe_lst (pa_cons (pe_un un_neg pe_int) pa_nil)))) pss_nil)
    (pss_cons (ps_set (i := 3) sc_when.nd rfl (Or.inl rfl) (pe_ix ix_list (pe_fld (pv 0) rfl) (pv 1) (fun _ _ => rfl)))
    (pss_cons (ps_if (pt_cmpR op_ge (pv 2) (pe_fld (pv 3) rfl) (nomark _))
    (pss_one (ps_ret (pe_lst (pa_cons (pe_un un_neg pe_int) pa_nil)))) pss_nil)
    (pss_cons (ps_if (pt_val (pe_call (ok_is_on_star T) (hr.mono (by decide)) (by rfl) T.is_on_star.g T.is_on_star.F.kp T.is_on_star.b .nil pass0 (pa_cons (pv 3) pa_nil)))
    (pss_one (ps_ret (pe_lst (pa_cons (pe_un un_neg pe_int) pa_nil)))) pss_nil)
    (pss_cons (ps_set (i := 4) sc_when.nd rfl (Or.inl rfl) (pe_call (ok_rate_of T) (hr.mono (by decide)) (by rfl) T.rate_of.g T.rate_of.F.kp T.rate_of.b .nil pass0 (pa_cons (pe_fld (pv 3) rfl) pa_nil)))
    (pss_cons (ps_if (pt_cmpR op_eq (pe_ix ix_tup (pv 4) pe_int (fun _ _ => rfl)) pe_int (nomark _))
    (pss_one (ps_ret (pe_lst (pa_cons (pe_un un_neg pe_int) pa_nil)))) pss_nil)
    (pss_cons (ps_set (i := 5) sc_when.nd rfl (Or.inl rfl) (pe_call (ok_lowest T) (hr.mono (by decide)) (by rfl) T.lowest.g T.lowest.F.kp T.lowest.b .nil pass0 (pa_cons (pe_op op_sub (pe_fld (pv 3) rfl) (pv 2)) (pa_cons (pe_fld (pv 3) rfl) pa_nil))))
    (pss_cons (ps_set (i := 6) sc_when.nd rfl (Or.inl rfl) (pe_call (ok_next_whole T) (hr.mono (by decide)) (by rfl) T.next_whole.g T.next_whole.F.kp T.next_whole.b .nil pass0 (pa_cons (pv 5) (pa_cons (pv 4) (pa_cons (pe_fld (pv 0) rfl) pa_nil)))))
    (pss_one (ps_ret (pe_lst (pa_cons pe_int (pa_cons (pe_ix ix_tup (pv 6) pe_int (fun _ _ => rfl)) (pa_cons (pe_ix ix_tup (pv 6) pe_int (fun _ _ => rfl)) pa_nil)))))))))))))), ?_⟩
    have hst : step (some s) (.when_ h m) = (some s, Mu07.when_ s h m) := rfl
    have hal : L.ha.length = s.works.hands.length := hS.w.lens.ha
    refine q_when (b := decide (s.works.hands.length ≤ h)) (et_is (et_test (ev_i (ev_var rfl) (ev_len (ev_fld (ev_var rfl) (T.fd_works_hands hS.w.w)) (SqL.of hS.w.lists.lh)))) (by rw [refV_len, hal]; exact dle)) (fun hb H1 e1 => ?_) (fun hb H1 e1 => ?_)
    · have hwh : Mu07.when_ s h m = [-2] := by
        unfold Mu07.when_
        rw [List.getElem?_eq_none (of_decide_eq_true hb)]
      rw [hwh] at hst
      exact s_retL (el_lst (ea_cons (ev_neg ev_c) ea_nil) (Nat.le_of_ble_eq_true rfl)) fun p H4 np e4 hp => k.keep hst (fresh_back e1 np) (e1.trans e4) hp hS.w
    have hh := of_decide_eq_false hb
    have hhp : L.ha[h]? = some (L.ha[h]'(by omega)) := List.getElem?_eq_getElem (by omega)
    generalize L.ha[h]'(by omega) = hpA at *
    obtain ⟨x, dx, na, q, x1, x2, x3, _⟩ := hS.w.hands h hpA hhp
    obtain ⟨_, mx1, mx2, fx⟩ := hS.g.wf.hand x (List.mem_of_getElem? x1)
    have hme : Mu07.when_ s h m = if x.marks ≤ m then [-1] else match exact s h with
      | none => [-5]
      | some y => match nextWhole (y.1.less (frac (m : Int) (x.marks : Int))) y.2 with
        | some t => 0 :: told ((whole (s.now : Int)).plus t)
        | none => [-6] := by
      unfold Mu07.when_
      rw [x1]
      rfl
    refine q_asg (ev_ixL (j := h) (ev_fld (ev_var rfl) (T.fd_works_hands (e1 _ _ hS.w.w))) (ev_var rfl) (SqL.of (e1 _ _ hS.w.lists.lh)) rfl (refV_get hhp)) fun H2 e2' => ?_
    have e2 := e1.trans e2'
    refine q_when (b := decide (x.marks ≤ m)) (et_is (et_test (ev_i (ev_var rfl) (ev_fld (ev_var rfl) (T.fd_hand_marks (e2 _ _ x2))))) dle) (fun hb H3 e3' => ?_) (fun hb H3 e3' => ?_)
    · rw [if_pos (of_decide_eq_true hb)] at hme
      rw [hme] at hst
      have e3 := e2.trans e3'
      exact s_retL (el_lst (ea_cons (ev_neg ev_c) ea_nil) (Nat.le_of_ble_eq_true rfl)) fun p H4 np e4 hp => k.keep hst (fresh_back e3 np) (e3.trans e4) hp hS.w
    have hlt := of_decide_eq_false hb
    rw [if_neg hlt] at hme
    have e3 := e2.trans e3'
    refine q_when (b := (match x.on with | .arbor _ => false | .star _ => true)) (et_B (ev_call (ea_cons (ev_var rfl) ea_nil) (sv_of fun H4 e4 => ⟨L, s, h, hpA, x, rfl, hS.w.ex (e3.trans e4), hhp, x1, rfl⟩))) (fun hb H4 e4' => ?_) (fun hb H4 e4' => ?_)
    · have hx5 : ∃ i, x.on = .star i := by
        cases hx : x.on with
        | star i => exact ⟨i, rfl⟩
        | arbor i =>
          rw [hx] at hb
          cases hb
      obtain ⟨i, hi⟩ := hx5
      rw [exact_star x1 hi] at hme
      rw [hme] at hst
      have e4 := e3.trans e4'
      exact s_retL (el_lst (ea_cons (ev_neg ev_c) ea_nil) (Nat.le_of_ble_eq_true rfl)) fun p H5 np e5 hp => k.keep hst (fresh_back e4 np) (e4.trans e5) hp hS.w
    obtain ⟨i, hi⟩ : ∃ i, x.on = .arbor i := by
      cases hx : x.on with
      | arbor i => exact ⟨i, rfl⟩
      | star i =>
        rw [hx] at hb
        cases hb
    have e4 := e3.trans e4'
    rw [exact_arbor x1 hi] at hme
    dsimp only at hme
    have hmx := hS.w.mov hS.g x3
    rw [hi] at hmx
    have ri : RateOk (rateQ s i) := hS.g.rates i
    refine q_asgU (xs := fracV (rateQ s i)) (eu_call (ea_cons (ev_fld (ev_var rfl) (T.fd_hand_mover (e4 _ _ x2))) ea_nil) (su_of fun H5 e5 => ⟨s, .arbor i, q, rfl, hmx.ex (e4.trans e5), rfl⟩)) fun u H5 nu e5' hu => ?_
    have e5 := e4.trans e5'
    have i1 := ri.2.1
    have i2 := ri.2.2
    generalize hrr : rateQ s i = rr at *
    refine q_when (b := rr.n == 0) (et_test (ev_eqI (ev_ixT (j := 0) (ev_var rfl) ev_c (SqT.of hu) rfl rfl) ev_c)) (fun hb H6 e6' => ?_) (fun hb H6 e6' => ?_)
    · have h0 : rr.n = 0 := by simpa using hb
      rw [next_none h0] at hme
      rw [hme] at hst
      have e6 := e5.trans e6'
      exact s_retL (el_lst (ea_cons (ev_neg ev_c) ea_nil) (Nat.le_of_ble_eq_true rfl)) fun p H9 np e9 hp => k.keep hst (fresh_back e6 np) (e6.trans e9) hp hS.w
    have h0 : rr.n ≠ 0 := by simpa using hb
    have e6 := e5.trans e6'
    have sh := hS.s h
    generalize ho1 : (x.first : Int) + s.set.getD h 0 = o1 at *
    have b1 : o1.natAbs ≤ 1001000 := by omega
    have c1 : Bt 37 (o1 - (m : Int)) := small_bt (by omega)
    have d1 := marks_bt mx2
    have mm0 : (x.marks : Int) ≠ 0 := by omega
    obtain ⟨sp, sb1, sb2⟩ := start_bd mm0 (c1.up (by decide)) (d1.up (by decide))
    refine q_asgU (xs := fracV (frac (o1 - (m : Int)) (x.marks : Int))) (eu_call (ea_cons (ev_i (ev_fld (ev_var rfl) (T.fd_hand_offset (e6 _ _ x2))) (ev_var rfl)) (ea_cons (ev_fld (ev_var rfl) (T.fd_hand_marks (e6 _ _ x2))) ea_nil)) (su_of fun H9 e9 => ⟨_, _, rfl, mm0, d1.sm (by decide), rfl⟩)) fun stA H7 nst e7' hstA => ?_
    have e7 := e6.trans e7'
    have hu7 := (e6'.trans e7') _ _ hu
    have snm := frac_nm (o1 - (m : Int)) (x.marks : Int)
    have sval := frac_val (o1 - (m : Int)) (x.marks : Int)
    generalize frac (o1 - (m : Int)) (x.marks : Int) = st at *
    obtain ⟨t, ht1, ht2⟩ := next_of (a := ((frac o1 (x.marks : Int)).plus (rr.times (whole (s.now : Int)))).less (frac (m : Int) (x.marks : Int))) (r := rr) (st := st) (now := (s.now : Int)) (less_nm _ _) ri.1 snm (by
      rw [less_val (plus_nm _ _) (frac_nm _ _), exact_val ri.1, sval, frac_val]
      have z1 := cast_ne mm0
      simp only [Rat.intCast_sub]
      exact rat_mark z1) h0
    rw [ht1] at hme
    dsimp only at hme
    rw [ht2] at hme
    rw [hme] at hst
    have rpos := ri.1.pos
    refine q_asgU (eu_call (ea_cons (ev_var rfl) (ea_cons (ev_var rfl) (ea_cons (ev_fld (ev_var rfl) (T.fd_works_now (e7 _ _ hS.w.w))) ea_nil))) (su_of fun H10 e10 => ⟨stA, u, st.n, (st.d : Int), rr.n, (rr.d : Int), (s.now : Int), rfl, e10 _ _ hstA, e10 _ _ hu7, sp, by omega, h0, sb1, sb2, i1.up (by decide), i2.up (by decide), (bt_time hS.g.now).up (by decide), rfl⟩)) fun mo H10 nmo e10' hmo => ?_
    have e10 := e7.trans e10'
    exact s_retL (el_lst (ea_cons ev_c (ea_cons (ev_ixT (j := 0) (ev_var rfl) ev_c (SqT.of hmo) rfl rfl) (ea_cons (ev_ixT (j := 1) (ev_var rfl) ev_c (SqT.of hmo) rfl rfl) ea_nil))) (Nat.le_of_ble_eq_true rfl)) fun p H11 np e11 hp => k.keep hst (fresh_back e10 np) (e10.trans e11) hp hS.w
def spDate : Sp := fun vs H Q _ => ∃ (L : Lay) (s : State) (c : Nat), vs = [.ref L.a, .int (c : Nat)] ∧ Std T H L s ∧ AnsK T L H Q (step (some s) (.date c))
theorem ok_date : FnOk P w K mg base CX0 18 T.date.f T.date.fd ["works", "c"] (spDate T) := by
  refine T.date.F.ok sc_date (fun vs H Q E h => ?_) (fun cdv A outer s H vs Q E hr h => ?_)
  · obtain ⟨L, s, c, rfl, _⟩ := h
    rfl
  · obtain ⟨L, s, c, rfl, hS, k⟩ := h
    refine ⟨_, (pss_cons (ps_if (pt_cmpR op_ge (pv 1) (pe_callB call_len_seq (by rfl) T.b_len (by decide +kernel) (pa_cons (pe_fld (pv 0) rfl) pa_nil)) (nomark _))
    (pss_one (ps_ret (pe_lst (pa_cons (pe_un un_neg pe_int) pa_nil)))) pss_nil)
    (pss_cons (ps_set (i := 2) sc_date.nd rfl (Or.inl rfl) (pe_ix ix_list (pe_fld (pv 0) rfl) (pv 1) (fun _ _ => rfl)))
    (pss_cons (ps_set (i := 3) sc_date.nd rfl (Or.inl rfl) (pe_call (ok_whole_turns T) (hr.mono (by decide)) (by rfl) T.whole_turns.g T.whole_turns.F.kp T.whole_turns.b .nil pass0 (pa_cons (pe_fld (pv 2) rfl) (pa_cons (pe_fld (pv 0) rfl) pa_nil))))
    (pss_cons (ps_set (i := 4) sc_date.nd rfl (Or.inl rfl) (pe_op op_add (pv 3) (pe_fld (pv 2) rfl)))
    (pss_cons (ps_if (PW.pt (pw_or (pt_cmpR op_gt (pe_callB call_abs (by rfl) T.b_abs (by decide +kernel) (pa_cons (pv 3) pa_nil)) pe_int (nomark _)) (pw_or1 (pt_cmpR op_gt (pe_callB call_abs (by rfl) T.b_abs (by decide +kernel) (pa_cons (pv 4) pa_nil)) pe_int (nomark _)))))
    (pss_one (ps_ret (pe_lst (pa_cons (pe_un un_neg pe_int) pa_nil)))) pss_nil)
    (pss_one (ps_ret (pe_op op_cat (pe_op op_cat (pe_lst (pa_cons pe_int pa_nil)) (pe_call (ok_days_on T) (hr.mono (by decide)) (by rfl) T.days_on.g T.days_on.F.kp T.days_on.b .nil pass0 (pa_cons (pv 2) (pa_cons (pv 4) (pa_cons pe_bl pa_nil))))) (pe_call (ok_days_on T) (hr.mono (by decide)) (by rfl) T.days_on.g T.days_on.F.kp T.days_on.b .nil pass0 (pa_cons (pv 2) (pa_cons (pv 3) (pa_cons pe_bl pa_nil)))))))))))), ?_⟩
    have hst : step (some s) (.date c) = (some s, Mu07.date s c) := rfl
    have cal : L.ca.length = s.works.calendars.length := hS.w.lens.ca
    refine q_when (b := decide (s.works.calendars.length ≤ c)) (et_is (et_test (ev_i (ev_var rfl) (ev_len (ev_fld (ev_var rfl) (T.fd_works_calendars hS.w.w)) (SqL.of hS.w.lists.lc)))) (by rw [refV_len, cal]; exact dle)) (fun hb H1 e1 => ?_) (fun hb H1 e1 => ?_)
    · have hwh : Mu07.date s c = [-2] := by
        unfold Mu07.date
        rw [List.getElem?_eq_none (of_decide_eq_true hb)]
      rw [hwh] at hst
      exact s_retL (el_lst (ea_cons (ev_neg ev_c) ea_nil) (Nat.le_of_ble_eq_true rfl)) fun p H4 np e4 hp => k.keep hst (fresh_back e1 np) (e1.trans e4) hp hS.w
    have hh := of_decide_eq_false hb
    have hcp : L.ca[c]? = some (L.ca[c]'(by omega)) := List.getElem?_eq_getElem (by omega)
    generalize L.ca[c]'(by omega) = cp at *
    obtain ⟨x, dx, na, q, x1, x2, x3, _⟩ := hS.w.cals c cp hcp
    obtain ⟨_, y1, y2, m1, m2, d1, d2⟩ := hS.g.wf.calendar x (List.mem_of_getElem? x1)
    have hm := hS.w.mov hS.g x3
    have bt2 := (bt_time hS.g.now).up (b := 2000) (by decide)
    have hda : Mu07.date s c = if turns s 8 x.by_ s.now + s.days.getD c 0 < -100000 ∨ 100000 < turns s 8 x.by_ s.now + s.days.getD c 0 ∨ (turns s 8 x.by_ s.now < -100000 ∨ 100000 < turns s 8 x.by_ s.now) then [-3] else
        [0, (Mu07.daysFrom Mu07.camLeap x.first (turns s 8 x.by_ s.now + s.days.getD c 0)).y, ((Mu07.daysFrom Mu07.camLeap x.first (turns s 8 x.by_ s.now + s.days.getD c 0)).m : Int), ((Mu07.daysFrom Mu07.camLeap x.first (turns s 8 x.by_ s.now + s.days.getD c 0)).d : Int),
          (Mu07.daysFrom Mu07.trueLeap x.first (turns s 8 x.by_ s.now)).y, ((Mu07.daysFrom Mu07.trueLeap x.first (turns s 8 x.by_ s.now)).m : Int), ((Mu07.daysFrom Mu07.trueLeap x.first (turns s 8 x.by_ s.now)).d : Int)] := by
      unfold Mu07.date
      rw [x1]
      rfl
    generalize hz1 : turns s 8 x.by_ s.now = gone at *
    have vt : Valid (leapOf false) x.first := ⟨m1, m2, d1, d2⟩
    have vc : Valid (leapOf true) x.first := ⟨m1, m2, d1, Nat.le_trans d2 (daysOf_cam _ _)⟩
    refine q_asg (ev_ixL (j := c) (ev_fld (ev_var rfl) (T.fd_works_calendars (e1 _ _ hS.w.w))) (ev_var rfl) (SqL.of (e1 _ _ hS.w.lists.lc)) rfl (refV_get hcp)) fun H2 e2' => ?_
    have e2 := e1.trans e2'
    refine q_asg (v := .int gone) (ev_call (ea_cons (ev_fld (ev_var rfl) (T.fd_cal_mover (e2 _ _ x2))) (ea_cons (ev_fld (ev_var rfl) (T.fd_works_now (e2 _ _ hS.w.w))) ea_nil)) (sv_of fun H3 e3 => ⟨s, x.by_, q, s.now, rfl, hm.ex (e2.trans e3), bt2, by rw [hz1]⟩)) fun H3 e3' => ?_
    have e3 := e2.trans e3'
    refine q_asg (v := .int (gone + s.days.getD c 0)) (ev_i (ev_var rfl) (ev_fld (ev_var rfl) (T.fd_cal_offset (e3 _ _ x2)))) fun H4 e4' => ?_
    have e4 := e3.trans e4'
    generalize gone + s.days.getD c 0 = wz at *
    have ab : ∀ z : Int, decide (100000 < (if z < 0 then -z else z)) = (decide (z < -100000) || decide (100000 < z)) := fun z => by
      by_cases h1 : z < -100000
      · rw [decide_eq_true h1]
        exact decide_eq_true (by split <;> omega)
      · rw [decide_eq_false h1]
        by_cases h2 : 100000 < z
        · rw [decide_eq_true h2]
          exact decide_eq_true (by split <;> omega)
        · rw [decide_eq_false h2]
          exact decide_eq_false (by split <;> omega)
    refine q_when (b := (decide (gone < -100000) || decide (100000 < gone)) || (decide (wz < -100000) || decide (100000 < wz))) (et_or (et_is (et_test (ev_i (ev_abs (ev_var rfl)) ev_c)) (ab gone)) fun _ => et_is (et_test (ev_i (ev_abs (ev_var rfl)) ev_c)) (ab wz)) (fun hb H5 e5' => ?_) (fun hb H5 e5' => ?_)
    · rw [if_pos (by
        rcases Bool.or_eq_true_iff.mp hb with z | z
        · rcases Bool.or_eq_true_iff.mp z with z | z
          · exact Or.inr (Or.inr (Or.inl (of_decide_eq_true z)))
          · exact Or.inr (Or.inr (Or.inr (of_decide_eq_true z)))
        · rcases Bool.or_eq_true_iff.mp z with z | z
          · exact Or.inl (of_decide_eq_true z)
          · exact Or.inr (Or.inl (of_decide_eq_true z)))] at hda
      rw [hda] at hst
      have e5 := e4.trans e5'
      exact s_retL (el_lst (ea_cons (ev_neg ev_c) ea_nil) (Nat.le_of_ble_eq_true rfl)) fun p H6 np e6 hp => k.keep hst (fresh_back e5 np) (e5.trans e6) hp hS.w
    rw [if_neg (by
      rw [Bool.or_eq_false_iff, Bool.or_eq_false_iff, Bool.or_eq_false_iff] at hb
      rintro (z | z | z | z)
      · exact of_decide_eq_false hb.2.1 z
      · exact of_decide_eq_false hb.2.2 z
      · exact of_decide_eq_false hb.1.1 z
      · exact of_decide_eq_false hb.1.2 z)] at hda
    rw [hda] at hst
    have e5 := e4.trans e5'
    have cd : ∀ H', Ex H H' → CalDay K H' cp x.first := fun H' e => ⟨T.fd_cal_year (e _ _ x2), T.fd_cal_month (e _ _ x2), T.fd_cal_day (e _ _ x2)⟩
    exact s_retL (xs := ([V.int 0] ++ dayV (Mu07.daysFrom (leapOf true) x.first wz)) ++ dayV (Mu07.daysFrom (leapOf false) x.first gone)) (el_cat (el_cat (xs := [V.int 0]) (el_lst (ea_cons ev_c ea_nil) (Nat.le_of_ble_eq_true rfl)) (el_call (ea_cons (ev_var rfl) (ea_cons (ev_var rfl) (ea_cons ev_c ea_nil))) (sl_of fun H6 e6 => ⟨cp, x.first, wz, true, rfl, cd H6 (e5.trans e6), vc, rfl⟩)) (Nat.le_of_ble_eq_true rfl)) (el_call (ea_cons (ev_var rfl) (ea_cons (ev_var rfl) (ea_cons ev_c ea_nil))) (sl_of fun H6 e6 => ⟨cp, x.first, gone, false, rfl, cd H6 (e5.trans e6), vt, rfl⟩)) (Nat.le_of_ble_eq_true rfl)) fun p H6 np e6 hp => k.keep hst (fresh_back e5 np) (e5.trans e6) hp hS.w
end
end Cw

/-! The walk through works: read; one answer. -/
namespace Cw
open PySem PySem.Spec PyProof.Rows L2 Evl
open Mu07 (State Goes Works Star Q frac whole Bytes struck step Call Abs Ans begun)
section
variable {K : PySem.W.Frag} {mg : Str → Option Value}
def Txt.off (T : Txt K mg) (a : Addr) : Txt K mg := { T with td := a }
def BenchAt (T : Txt K mg) (H : Hp) (b bx : Addr) (o : Abs) : Prop := match o with
  | none => H b = some (.ins T.Bench.C bx (benchF .non))
  | some s => ∃ L, H b = some (.ins T.Bench.C bx (benchF (.ref L.a))) ∧ WAt T H L s ∧ T.td ∉ ownL L
/-- all but instances stand -/
def KLst (H H' : Hp) : Prop := ∀ a o, H a = some o → (∀ C dx fs, o ≠ .ins C dx fs) → H' a = some o
theorem KLst.of {H H' : Hp} (e : Ex H H') : KLst H H' := fun a l h _ => e _ _ h
theorem KLst.trans {H H1 H' : Hp} (x : KLst H H1) (y : KLst H1 H') : KLst H H' := fun a l h n => y _ _ (x _ _ h n) n
theorem KLst.ins {H H' : Hp} {b C dx : Addr} {fs : List (Str × V)} (hb : H b = some (.ins C dx fs)) (e : ExB b H H') : KLst H H' := fun a l h n => e a _ (fun z => n C dx fs (by rw [z, hb] at h; exact (Option.some.inj h).symm)) h
theorem KLst.l {H H' : Hp} (k : KLst H H') {a : Addr} {l : List V} (h : H a = some (.lst l)) : H' a = some (.lst l) := k a _ h fun _ _ _ z => by cases z
theorem KLst.sq {H H' : Hp} (k : KLst H H') {a : Addr} {xs : List V} (h : SqL K H a xs) : SqL K H' a xs := by
  rcases h with h | h
  · refine Or.inl ?_
    rcases h with h | ⟨o, h⟩
    · exact Or.inl (k _ _ h fun _ _ _ z => by cases z)
    · exact Or.inr ⟨o, k _ _ h fun _ _ _ z => by cases z⟩
  · exact Or.inr h
variable {T : Txt K mg} {σ : L2.St} {H H' : Hp} {D : Ends} {tz : TS} {te : TE} {L : Lay}
theorem q_asgI {i : Nat} {C : Addr} {fs : List (Str × V)} (h : EvI te σ H C fs) (k : ∀ p dx H1, H p = none → Ex H H1 → H1 p = some (.ins C dx fs) → tz D (σ.set i (some (.ref p))) H1) : tSeq (tAsg te (gName i)) tz D σ H := h H (Ex.refl H) _ k
/-- works = Works() -/
theorem q_asgWorks {i : Nat} {E : XK} (k : ∀ L H1, (∀ a ∈ ownL L, H a = none) → Ex H H1 → WAt T H1 L (raw {}) → L.ar = [] → tz D (σ.set i (some (.ref L.a))) H1) : tSeq (tAsg (tMake T.Works.C (spWorksI T.Works.C) [] E tNil) (gName i)) tz D σ H := fun x dx nx ndx ne =>
  ⟨x, dx, rfl, upd_same, fun la lw lm ls lh lk lc H' hx eb each nd => ⟨rfl, by
    have old : ∀ l, (upd (upd H dx (.own x)) x (.ins T.Works.C dx [])) l = none → H l = none := fun l hl => by
      by_cases h1 : l = x
      · rw [h1]; exact nx
      · rw [upd_ne h1] at hl
        by_cases h2 : l = dx
        · rw [h2]; exact ndx
        · rw [upd_ne h2] at hl
          exact hl
    refine k ⟨x, dx, la, lw, lm, ls, lh, lk, lc, [], [], [], [], [], [], []⟩ H' (fun a ha => ?_) (fun b o hb => ?_) ?_ rfl
    · rcases List.mem_cons.mp ha with h | h
      · rw [h]; exact nx
      · exact old a (each a h).2
    · refine eb b o (ne_of_none hb nx) ?_
      rw [upd_ne (ne_of_none hb nx), upd_ne (ne_of_none hb ndx)]
      exact hb
    · have m : ∀ l, l ∈ [la, lw, lm, ls, lh, lk, lc] → H' l = some (.lst (refV [])) := fun l hl => (each l hl).1
      exact ⟨hx, ⟨m la (by simp), m lw (by simp), m lm (by simp), m ls (by simp), m lh (by simp), m lk (by simp), m lc (by simp), nd⟩, ⟨rfl, rfl, rfl, rfl, rfl, rfl, rfl, List.nodup_nil, List.nodup_nil, List.nodup_nil⟩,
        fun i p h => by simp at h, fun i p h => by simp at h, fun i p h => by simp at h, fun i p h => by simp at h, fun i p h => by simp at h, fun i p h => by simp at h, fun i p h => by simp at h⟩⟩⟩
theorem WAt.ar_ins {s : State} (h : WAt T H L s) {a : Addr} (m : a ∈ L.ar) : ∃ dx fs, H a = some (.ins T.Mover.C dx fs) ∧ fs.map (·.1) = moverK := by
  obtain ⟨j, hj, e⟩ := List.mem_iff_getElem.mp m
  obtain ⟨_, dx, _, _, h2, _⟩ := h.arbs j a (by rw [← e]; exact List.getElem?_eq_getElem hj)
  exact ⟨dx, _, h2, moverF_keys⟩
theorem KLst.ar {s : State} (h : WAt T H L s) (k : KeptL L.ar H H') : KLst H H' := fun a l hl n => k a _ hl fun m => by
  obtain ⟨dx, fs, e, _⟩ := h.ar_ins m
  rw [hl] at e
  exact n _ _ _ (Option.some.inj e)
/-- the works' own object apart, what's written to td leaves works -/
theorem WAt.offTd {s : State} {l : List V} (h : WAt T H L s) (hl : H T.td = some (.lst l)) (ho : T.td ∉ ownL L) (e : ExB T.td H H') : WAt T H' L s := by
  have ins : ∀ {p C dx : Addr} {fs : List (Str × V)}, H p = some (.ins C dx fs) → H' p = some (.ins C dx fs) := fun {p C dx fs} hp => e _ _ (fun z => by rw [z, hl] at hp; cases hp) hp
  have lst : ∀ {p : Addr} {o : HO}, p ∈ ownL L → H p = some o → H' p = some o := fun {p o} hm hp => e _ _ (fun z => ho (z ▸ hm)) hp
  refine ⟨ins h.w, ⟨lst (by simp [ownL]) h.lists.la, lst (by simp [ownL]) h.lists.lw, lst (by simp [ownL]) h.lists.lm, lst (by simp [ownL]) h.lists.ls, lst (by simp [ownL]) h.lists.lh, lst (by simp [ownL]) h.lists.lk, lst (by simp [ownL]) h.lists.lc, h.lists.nd⟩, h.lens, fun i p hp => ?_, fun i p hp => ?_, fun i p hp => ?_, fun i p hp => ?_, fun i p hp => ?_, fun i p hp => ?_, fun i p hp => ?_⟩
  · obtain ⟨nm, dx, na, h1, h2, h3⟩ := h.arbs i p hp
    exact ⟨nm, dx, na, h1, ins h2, h3.off e⟩
  · obtain ⟨x, dx, na, q, h1, h2, h3, h4⟩ := h.whls i p hp
    exact ⟨x, dx, na, q, h1, ins h2, h3, h4.off e⟩
  · obtain ⟨x, dx, na, q, h1, h2, h3⟩ := h.mshs i p hp
    exact ⟨x, dx, na, q, h1, ins h2, h3⟩
  · obtain ⟨x, dx, na, q, h1, h2, h3, h4⟩ := h.stars i p hp
    exact ⟨x, dx, na, q, h1, ins h2, h3, h4.off e⟩
  · obtain ⟨x, dx, na, q, h1, h2, h3, h4⟩ := h.hands i p hp
    exact ⟨x, dx, na, q, h1, ins h2, h3, h4.off e⟩
  · obtain ⟨x, dx, na, q, ns, hd, h1, h2, h3, h4, h5, h6⟩ := h.strks i p hp
    exact ⟨x, dx, na, q, ns, hd, h1, ins h2, h3, h4.off e, fun z => ⟨(h5 z).1, (h5 z).2.off e⟩, h6⟩
  · obtain ⟨x, dx, na, q, h1, h2, h3, h4⟩ := h.cals i p hp
    exact ⟨x, dx, na, q, h1, ins h2, h3, h4.off e⟩
/-- the works' own stand behind whatever kept the rest -/
theorem el_catV {ta tb : TE} {q : Addr} {xs ys : List V} (hq : H q = some (.lst xs)) (ha : Ev ta σ H (.ref q)) (hb : ∀ H1, Ex H H1 → EvL tb σ H1 ys) (hz : xs.length + ys.length ≤ 100000) : EvL (tOp rCat ta tb) σ H (xs ++ ys) := fun H1 e Q k =>
  ha H1 e _ fun H2 e2 => hb H2 (e.trans e2) H2 (Ex.refl H2) _ fun b H3 nb e3 hb3 => ⟨q, b, xs, ys, rfl, rfl, ((e.trans e2).trans e3) _ _ hq, hb3, sz_of hz, fun p np => k p _ (fresh_back (e2.trans e3) np) ((e2.trans e3).trans (Ex.new np)) upd_same⟩
theorem begun_good {W : Works} (F : Wf W) (hr : ∀ i, RateOk ((begun W).rates.getD i (whole 0))) : Good (begun W) :=
  ⟨F, hr, List.length_map _, List.length_map _, List.length_map _, fun i x hx hh => by
    show (W.strikers.map fun _ => (0 : Nat)).getD i 0 < _
    rw [zeros_getDN]
    have := (F.striker x (List.mem_of_getElem? hx)).2.2.1 hh
    omega, Nat.zero_le _⟩
theorem step_read (o : Abs) (t : Bytes) : step o (.read t) = match Mu07.read t with | .error x => (none, [-2, (x.1 : Int), (x.2 : Int)]) | .ok W => Mu07.readAns W := by
  cases o <;> rfl
end
section
variable {P : Program} {w : World} {K : PySem.W.Frag} {mg : Str → Option Value} {base : Heap} (T : Txt K mg)
/-- good and little set on, if any -/
def FreshO (o : Abs) : Prop := ∀ s, o = some s → Good s ∧ ∀ i, s.set.getD i 0 = 0
def spReadA : Sp := fun vs H Q _ => ∃ (b bx tp : Addr) (wk : V) (t : Bytes) (tl : List V) (o : Abs), vs = [.ref b, .ref tp] ∧ H b = some (.ins T.Bench.C bx (benchF wk)) ∧ H tp = some (.lst (byV t)) ∧ t.length ≤ 4000 ∧ H T.td = some (.lst tl) ∧
  ∀ p H', H p = none → KLst H H' → H' p = some (.lst (zV (step o (.read t)).2)) → BenchAt T H' b bx (step o (.read t)).1 → FreshO (step o (.read t)).1 → Q (.ref p) H'
theorem ok_readA : FnOk P w K mg base CX0 8 T.read.f T.read.fd ["bench", "text"] (spReadA T) := by
  refine T.read.F.ok sc_read (fun vs H Q E h => ?_) (fun cdv A outer s H vs Q E hr h => ?_)
  · obtain ⟨b, bx, tp, wk, t, tl, o, rfl, _⟩ := h
    rfl
  · obtain ⟨b, bx, tp, wk, t, tl, o, rfl, hb, htp, htl, htd, k⟩ := h
    refine ⟨_, (pss_cons (ps_fld (pv 0) pe_non rfl)
    (pss_cons (ps_set (i := 2) sc_read.nd rfl (Or.inl rfl) (pe_make0 T.Works.mkC (ok_Works_init T) (hr.mono (by decide)) (by rfl) T.Works.g T.Works.b .nil pass0))
    (pss_cons (ps_set (i := 3) sc_read.nd rfl (Or.inl rfl) (pe_call (ok_read_text T) (hr.mono (by decide)) (by rfl) T.read_text.g T.read_text.F.kp T.read_text.b .nil pass0 (pa_cons (pv 2) (pa_cons (pv 1) pa_nil))))
    (pss_cons (ps_if (pt_cmpR op_notN (pv 3) pe_non (nomark _))
    (pss_one (ps_ret (pe_lst (pa_cons (pe_un un_neg pe_int) (pa_cons (pe_ix ix_tup (pv 3) pe_int (fun _ _ => rfl)) (pa_cons (pe_ix ix_tup (pv 3) pe_int (fun _ _ => rfl)) pa_nil)))))) pss_nil)
    (pss_cons (ps_set (i := 4) sc_read.nd rfl (Or.inl rfl) (pe_call (ok_set_rates T) (hr.mono (by decide)) (by rfl) T.set_rates.g T.set_rates.F.kp T.set_rates.b .nil pass0 (pa_cons (pv 2) pa_nil)))
    (pss_cons (ps_if (pt_cmpR op_notN (pv 4) pe_non (nomark _))
    (pss_one (ps_ret (pv 4))) pss_nil)
    (pss_cons (ps_fld (pv 0) (pv 2) rfl)
    (pss_cons (ps_set (i := 5) sc_read.nd rfl (Or.inl rfl) (pe_lst (pa_cons pe_int (pa_cons (pe_callB call_len_seq (by rfl) T.b_len (by decide +kernel) (pa_cons (pe_fld (pv 2) rfl) pa_nil)) (pa_cons (pe_callB call_len_seq (by rfl) T.b_len (by decide +kernel) (pa_cons (pe_fld (pv 2) rfl) pa_nil)) (pa_cons (pe_callB call_len_seq (by rfl) T.b_len (by decide +kernel) (pa_cons (pe_fld (pv 2) rfl) pa_nil)) pa_nil))))))
    (pss_one (ps_ret (pe_op op_cat (pv 5) (pe_lst (pa_cons (pe_callB call_len_seq (by rfl) T.b_len (by decide +kernel) (pa_cons (pe_fld (pv 2) rfl) pa_nil)) (pa_cons (pe_callB call_len_seq (by rfl) T.b_len (by decide +kernel) (pa_cons (pe_fld (pv 2) rfl) pa_nil)) pa_nil)))))))))))))), ?_⟩
    rw [step_read] at k
    refine q_stB hb (ExB.refl b H) ev_c (ev_var rfl) T.Bench.cl T.n_Bench_works benchF_len fun H1 h1 b1 => ?_
    rw [benchF_put_works] at h1
    have kl1 : KLst H H1 := KLst.ins hb b1
    have bn : H b ≠ none := by rw [hb]; exact fun z => by cases z
    have old1 : ∀ a, H1 a = none → H a = none := fun a ha => by
      cases hh : H a with
      | none => rfl
      | some u =>
        by_cases e : a = b
        · rw [e, h1] at ha
          cases ha
        · have := b1 a u e hh
          rw [ha] at this
          cases this
    have htd1 := kl1.l htd
    refine q_asgWorks fun L H2 own e2 hA2 har => ?_
    have htd2 := e2 _ _ htd1
    have tdo : T.td ∉ ownL L := fun m => by
      have := own _ m
      rw [htd1] at this
      cases this
    have bo : b ∉ ownL L := fun m => by
      have := own _ m
      rw [h1] at this
      cases this
    have klo : ∀ {H' : Hp}, KeptL (ownL L) H2 H' → KLst H H' := fun {H'} kk a l ha n => by
      have h1a := kl1 _ _ ha n
      exact kk a _ (e2 _ _ h1a) fun m => by
        have := own _ m
        rw [h1a] at this
        cases this
    have old2 : ∀ a, H2 a = none → H a = none := fun a ha => old1 a (fresh_back e2 ha)
    refine q_asgC (sp := spT T) (ea_cons (ev_var rfl) (ea_cons (ev_var rfl) ea_nil)) fun H3 e3 => ⟨L, tp, t, rfl, hA2.ex e3, SqL.of ((e2.trans e3) _ _ (kl1.l htp)), htl, (by rw [e3 _ _ htd2]; exact fun z => (by cases z)), tdo, ?_⟩
    cases hrd : Mu07.read t with
    | error x =>
      rw [hrd] at k
      obtain ⟨n, m⟩ := x
      refine fun p H4 np kp hown hp => ?_
      have kp2 : KeptL (ownL L) H2 H4 := (KeptL.of e3).trans kp
      refine q_when (b := true) (et_test (ev_is (ev_op (ev_var rfl) ev_c rv_notN) (congrArg V.bl (by rw [decide_eq_false fun z => by cases z]; rfl)))) (fun _ H5 e5 => ?_) (fun z => by cases z)
      have hp5 := e5 _ _ hp
      refine s_retL (el_lst (ea_cons (ev_neg ev_c) (ea_cons (ev_ixT (j := 0) (ev_var rfl) ev_c (SqT.of hp5) rfl rfl) (ea_cons (ev_ixT (j := 1) (ev_var rfl) ev_c (SqT.of hp5) rfl rfl) ea_nil))) (Nat.le_of_ble_eq_true rfl)) fun q H6 nq e6 hq => ?_
      have kp6 : KeptL (ownL L) H2 H6 := kp2.trans (KeptL.of (e5.trans e6))
      refine k q H6 ?_ (klo kp6) hq ?_ (fun s hs => by cases hs)
      · refine old2 q ?_
        cases hh : H2 q with
        | none => rfl
        | some u =>
          by_cases mm : q ∈ ownL L
          · exfalso
            have := own _ mm
            -- q is one of the works' own: it stands in H4
            exact hown q mm (fresh_back e5 nq)
          · have := kp2 q u hh mm
            rw [e5 _ _ this] at nq
            cases nq
      · show H6 b = _
        exact kp6 b _ (e2 _ _ h1) bo
    | ok X =>
      rw [hrd] at k
      have k : ∀ p H', H p = none → KLst H H' → H' p = some (.lst (zV (Mu07.readAns X).2)) → BenchAt T H' b bx (Mu07.readAns X).1 → FreshO (Mu07.readAns X).1 → Q (.ref p) H' := k
      refine fun L' H4 hS hA4 hF hdr kp => ?_
      have kp2 : KeptL (ownL L) H2 H4 := (KeptL.of e3).trans kp
      have hb4 := kp2 b _ (e2 _ _ h1) bo
      have old4 : ∀ a, H4 a = none → H a = none := fun a ha => by
        refine old2 a ?_
        cases hh : H2 a with
        | none => rfl
        | some u =>
          by_cases mm : a ∈ ownL L
          · rw [← hS.own] at mm
            exact absurd ha (hA4.own a mm)
          · have := kp2 a u hh mm
            rw [ha] at this
            cases this
      have tdo' : T.td ∉ ownL L' := by rw [hS.own]; exact tdo
      have bar : b ∉ L'.ar := fun m => by
        obtain ⟨dx, fs, e, ek⟩ := hA4.ar_ins m
        rw [hb4] at e
        have e := Option.some.inj e
        injection e with _ _ e
        rw [← e, benchF_keys] at ek
        exact absurd ek (by decide)
      have eLa : L'.a = L.a := hS.a
      refine q_when (b := false) (et_test (ev_op (ev_var rfl) ev_c rv_notN)) (fun z => by cases z) (fun _ H5 e5 => ?_)
      have hA5 := hA4.ex e5
      have kp5 : KeptL (ownL L) H2 H5 := kp2.trans (KeptL.of e5)
      refine q_asgC (sp := spRates T) (vs := [.ref L'.a]) (ea_cons (ev_var (by rw [eLa]; rfl)) ea_nil) fun H6 e6 => ⟨L', X, rfl, hA5.ex e6, hF, hdr, fun hlk p H7 np e7 hp => ?_, fun hlk i hlo p H7 np kr hp => ?_, fun hlk hlo hro H7 kr hA7 => ?_⟩
      · have ra : Mu07.readAns X = (none, [-3]) := if_pos hlk
        rw [ra] at k
        refine q_when (b := true) (et_test (ev_is (ev_op (ev_var rfl) ev_c rv_notN) (congrArg V.bl (by rw [decide_eq_false fun z => by cases z]; rfl)))) (fun _ H8 e8 => ?_) (fun z => by cases z)
        refine s_ret (ev_var rfl) fun H9 e9 => ?_
        have e59 := ((e6.trans e7).trans e8).trans e9
        exact k p H9 (old4 p (fresh_back (e5.trans e6) np)) (klo (kp5.trans (KeptL.of e59))) ((e8.trans e9) _ _ hp) ((e5.trans e59) _ _ hb4) (fun s hs => by cases hs)
      · have ra : Mu07.readAns X = (none, [-4, (i : Int)]) := by
          unfold Mu07.readAns
          rw [if_neg (by rw [hlk]; decide), hlo]
        rw [ra] at k
        refine q_when (b := true) (et_test (ev_is (ev_op (ev_var rfl) ev_c rv_notN) (congrArg V.bl (by rw [decide_eq_false fun z => by cases z]; rfl)))) (fun _ H8 e8 => ?_) (fun z => by cases z)
        refine s_ret (ev_var rfl) fun H9 e9 => ?_
        have hA6 := hA5.ex e6
        exact k p H9 (old4 p (fresh_back (e5.trans e6) np)) (((klo (kp5.trans (KeptL.of e6))).trans (KLst.ar hA6 kr)).trans (KLst.of (e8.trans e9))) ((e8.trans e9) _ _ hp) ((e8.trans e9) _ _ (kr b _ ((e5.trans e6) _ _ hb4) bar)) (fun s hs => by cases hs)
      · have ra : Mu07.readAns X = (some (begun X), [0, (X.arbors.length : Int), (X.stars.length : Int), (X.hands.length : Int), (X.strikers.length : Int), (X.calendars.length : Int)]) := by
          unfold Mu07.readAns
          rw [if_neg (by rw [hlk]; decide), hlo]
        rw [ra] at k
        refine q_when (b := false) (et_test (ev_op (ev_var rfl) ev_c rv_notN)) (fun z => by cases z) (fun _ H8 e8 => ?_)
        have hA6 := hA5.ex e6
        have hb8 := e8 _ _ (kr b _ ((e5.trans e6) _ _ hb4) bar)
        have hA8 := hA7.ex e8
        have kl8 : KLst H H8 := ((klo (kp5.trans (KeptL.of e6))).trans (KLst.ar hA6 kr)).trans (KLst.of e8)
        refine q_stB hb8 (ExB.refl b H8) (v := .ref L'.a) (ev_var (by rw [eLa]; rfl)) (ev_var rfl) T.Bench.cl T.n_Bench_works benchF_len fun H9 h9 b9 => ?_
        rw [benchF_put_works] at h9
        have hA9 : WAt T H9 L' (begun X) := by
          have t : ∀ k, benchK ≠ k → tagOf (.ins T.Bench.C bx (benchF .non)) ≠ k := fun k hk => by
            show (benchF _).map _ ≠ k
            rw [benchF_keys]
            exact hk
          refine ⟨b9 _ _ (tag_ne hA8.w hb8 fun z => (t worksK (by decide)) z.symm) hA8.w, hA8.lists.kp b9 hb8 (t _ (by decide)), hA8.lens, hA8.arbs.kp b9 hb8 (t _ (by decide)) (t _ (by decide)), hA8.whls.kp b9 hb8 (t _ (by decide)) (t _ (by decide)), hA8.mshs.kp b9 hb8 (t _ (by decide)), hA8.stars.kp b9 hb8 (t _ (by decide)) (t _ (by decide)), hA8.hands.kp b9 hb8 (t _ (by decide)) (t _ (by decide)), hA8.strks.kp b9 hb8 (t _ (by decide)) (t _ (by decide)), hA8.cals.kp b9 hb8 (t _ (by decide)) (t _ (by decide))⟩
        have kl9 : KLst H H9 := kl8.trans (KLst.ins hb8 b9)
        have l1 : L'.ar.length = X.arbors.length := hA9.lens.ar
        have l2 : L'.st.length = X.stars.length := hA9.lens.st
        have l3 : L'.ha.length = X.hands.length := hA9.lens.ha
        have l4 : L'.sk.length = X.strikers.length := hA9.lens.sk
        have l5 : L'.ca.length = X.calendars.length := hA9.lens.ca
        have old9 : ∀ a, H9 a = none → H a = none := fun a ha => by
          cases hh : H a with
          | none => rfl
          | some u =>
            by_cases e : a = b
            · rw [e, h9] at ha
              cases ha
            · exfalso
              have h8a : H8 a = none := by
                cases h8 : H8 a with
                | none => rfl
                | some u8 =>
                  have := b9 a u8 e h8
                  rw [ha] at this
                  cases this
              have h6a : H6 a ≠ none := fun z => by
                have := old4 a (fresh_back (e5.trans e6) z)
                rw [hh] at this
                cases this
              cases h6 : H6 a with
              | none => exact h6a h6
              | some u6 =>
                by_cases m : a ∈ L'.ar
                · obtain ⟨dx, fs, e', _⟩ := hA7.ar_ins m
                  rw [e8 _ _ e'] at h8a
                  cases h8a
                · have := e8 _ _ (kr a u6 h6 m)
                  rw [h8a] at this
                  cases this
        have wv : ∀ {H' : Hp}, Ex H9 H' → Fd K H' L'.a "arbors" (.ref L'.la) ∧ Fd K H' L'.a "stars" (.ref L'.ls) ∧ Fd K H' L'.a "hands" (.ref L'.lh) ∧ Fd K H' L'.a "strikers" (.ref L'.lk) ∧ Fd K H' L'.a "calendars" (.ref L'.lc) := fun {H'} e => ⟨T.fd_works_arbors (hA9.ex e).w, T.fd_works_stars (hA9.ex e).w, T.fd_works_hands (hA9.ex e).w, T.fd_works_strikers (hA9.ex e).w, T.fd_works_calendars (hA9.ex e).w⟩
        obtain ⟨w1, w2, w3, w4, w5⟩ := wv (Ex.refl H9)
        refine q_asgL (xs := [V.int 0, .int (X.arbors.length : Nat), .int (X.stars.length : Nat), .int (X.hands.length : Nat)]) (el_lst (ea_cons ev_c (ea_cons (ev_is (ev_len (ev_fld (ev_var (by rw [eLa]; rfl)) w1) (SqL.of hA9.lists.la)) (by rw [refV_len, l1])) (ea_cons (ev_is (ev_len (ev_fld (ev_var (by rw [eLa]; rfl)) w2) (SqL.of hA9.lists.ls)) (by rw [refV_len, l2])) (ea_cons (ev_is (ev_len (ev_fld (ev_var (by rw [eLa]; rfl)) w3) (SqL.of hA9.lists.lh)) (by rw [refV_len, l3])) ea_nil)))) (Nat.le_of_ble_eq_true rfl)) fun q H10 nq e10 hq => ?_
        obtain ⟨w1, w2, w3, w4, w5⟩ := wv e10
        have hA10 := hA9.ex e10
        refine s_retL (xs := [V.int 0, .int (X.arbors.length : Nat), .int (X.stars.length : Nat), .int (X.hands.length : Nat)] ++ [.int (X.strikers.length : Nat), .int (X.calendars.length : Nat)]) (el_catV hq (ev_var rfl) (fun Hc ec => el_lst (ea_cons (ev_is (ev_len (ev_fld (ev_var (by rw [eLa]; rfl)) (w4.ex ec)) (SqL.of (ec _ _ hA10.lists.lk))) (by rw [refV_len, l4])) (ea_cons (ev_is (ev_len (ev_fld (ev_var (by rw [eLa]; rfl)) (w5.ex ec)) (SqL.of (ec _ _ hA10.lists.lc))) (by rw [refV_len, l5])) ea_nil)) (Nat.le_of_ble_eq_true rfl)) (Nat.le_of_ble_eq_true rfl)) fun p H11 np e11 hp => ?_
        have e9' := e10.trans e11
        exact k p H11 (old9 p (fresh_back e10 np)) (kl9.trans (KLst.of e9')) hp ⟨L', e9' _ _ h9, hA9.ex e9', tdo'⟩ (fun s hs => by
          cases hs
          exact ⟨begun_good hF hro, fun i => zeros_getD _ _⟩)
end
end Cw

/-! The walk through works: an answer of the works. -/
namespace Cw
open PySem PySem.Spec PyProof.Rows L2 Evl
open Mu07 (State Goes Works Star Q frac whole Bytes struck step Call Abs Ans begun)
/-- the calls by their numbers -/
inductive CallIs : Nat → List Int → Bytes → Call → Prop
  | rate (t : Bytes) : CallIs 1 [] t (.rate t)
  | go (z : Nat) (h : z ≤ 100000000000) : CallIs 2 [(z : Int)] [] (.go z)
  | show_  : CallIs 3 [] [] (.show_)
  | turn (h : Nat) (k : Int) : CallIs 4 [(h : Int), k] [] (.turn h k)
  | lift (i : Nat) : CallIs 5 [(i : Int)] [] (.lift i)
  | astray (i h : Nat) : CallIs 6 [(i : Int), (h : Int)] [] (.astray i h)
  | meets (g h : Nat) : CallIs 7 [(g : Int), (h : Int)] [] (.meets g h)
  | when_ (h m : Nat) : CallIs 8 [(h : Int), (m : Int)] [] (.when_ h m)
  | date (c : Nat) : CallIs 9 [(c : Int)] [] (.date c)
  | days (c : Nat) (n : Int) : CallIs 10 [(c : Int), n] [] (.days c n)
theorem AnsK.ex {K : PySem.W.Frag} {mg : Str → Option Value} {T : Txt K mg} {L : Lay} {H H1 : Hp} {Q : VK} {r : Abs × Ans} (k : AnsK T L H Q r) (e : Ex H H1) : AnsK T L H1 Q r := by
  obtain ⟨o, a⟩ := r
  cases o with
  | none => trivial
  | some s => exact fun p H' np kp hp w => k p H' (fresh_back e np) ((KeptL.of e).trans kp) hp w
theorem s_retCall {σ : L2.St} {H : Hp} {D : Ends} {sp : Sp} {dvs vs : List V} {E : XK} {ta : TA} (h : EvA ta σ H vs) (k : ∀ H1, Ex H H1 → sp (vs ++ dvs) H1 D.rt E) : tRet (tCall sp dvs E ta) D σ H := h H (Ex.refl H) _ k
section
variable {P : Program} {w : World} {K : PySem.W.Frag} {mg : Str → Option Value} {base : Heap} (T : Txt K mg)
def spWA : Sp := fun vs H Q _ => ∃ (L : Lay) (s : State) (wp lp : Addr) (n : Nat) (ws : List Int) (t : Bytes) (c : Call), vs = [.ref L.a, .int (n : Nat), .ref wp, .ref lp] ∧ Std T H L s ∧ H wp = some (.lst (zV ws)) ∧ H lp = some (.lst (byV t)) ∧ CallIs n ws t c ∧ AnsK T L H Q (step (some s) c)
theorem ok_works_answerA : FnOk P w K mg base CX0 21 T.works_answer.f T.works_answer.fd ["works", "number", "w", "letters"] (spWA T) := by
  refine T.works_answer.F.ok sc_works_answer (fun vs H Q E h => ?_) (fun cdv A outer s H vs Q E hr h => ?_)
  · obtain ⟨L, s, wp, lp, n, ws, t, c, rfl, _⟩ := h
    rfl
  · obtain ⟨L, s, wp, lp, n, ws, t, c, rfl, hS, hw, hl, hc, k⟩ := h
    refine ⟨_, (pss_cons (ps_if (pt_cmpR op_eq (pv 1) pe_int (nomark _))
    (pss_one (ps_ret (pe_call (ok_rate T) (hr.mono (by decide)) (by rfl) T.rate.g T.rate.F.kp T.rate.b .nil pass0 (pa_cons (pv 0) (pa_cons (pv 3) pa_nil))))) pss_nil)
    (pss_cons (ps_if (pt_cmpR op_eq (pv 1) pe_int (nomark _))
    (pss_one (ps_ret (pe_call (ok_go T) (hr.mono (by decide)) (by rfl) T.go.g T.go.F.kp T.go.b .nil pass0 (pa_cons (pv 0) (pa_cons (pe_ix ix_list (pv 2) pe_int (fun _ _ => rfl)) pa_nil))))) pss_nil)
    (pss_cons (ps_if (pt_cmpR op_eq (pv 1) pe_int (nomark _))
    (pss_one (ps_ret (pe_call (ok_show T) (hr.mono (by decide)) (by rfl) T.show_.g T.show_.F.kp T.show_.b .nil pass0 (pa_cons (pv 0) pa_nil)))) pss_nil)
    (pss_cons (ps_if (pt_cmpR op_eq (pv 1) pe_int (nomark _))
    (pss_one (ps_ret (pe_call (ok_turn T) (hr.mono (by decide)) (by rfl) T.turn.g T.turn.F.kp T.turn.b .nil pass0 (pa_cons (pv 0) (pa_cons (pe_ix ix_list (pv 2) pe_int (fun _ _ => rfl)) (pa_cons (pe_ix ix_list (pv 2) pe_int (fun _ _ => rfl)) pa_nil)))))) pss_nil)
    (pss_cons (ps_if (pt_cmpR op_eq (pv 1) pe_int (nomark _))
    (pss_one (ps_ret (pe_call (ok_lift T) (hr.mono (by decide)) (by rfl) T.lift.g T.lift.F.kp T.lift.b .nil pass0 (pa_cons (pv 0) (pa_cons (pe_ix ix_list (pv 2) pe_int (fun _ _ => rfl)) pa_nil))))) pss_nil)
    (pss_cons (ps_if (pt_cmpR op_eq (pv 1) pe_int (nomark _))
    (pss_one (ps_ret (pe_call (ok_astray T) (hr.mono (by decide)) (by rfl) T.astray.g T.astray.F.kp T.astray.b .nil pass0 (pa_cons (pv 0) (pa_cons (pe_ix ix_list (pv 2) pe_int (fun _ _ => rfl)) (pa_cons (pe_ix ix_list (pv 2) pe_int (fun _ _ => rfl)) pa_nil)))))) pss_nil)
    (pss_cons (ps_if (pt_cmpR op_eq (pv 1) pe_int (nomark _))
    (pss_one (ps_ret (pe_call (ok_meets T) (hr.mono (by decide)) (by rfl) T.meets.g T.meets.F.kp T.meets.b .nil pass0 (pa_cons (pv 0) (pa_cons (pe_ix ix_list (pv 2) pe_int (fun _ _ => rfl)) (pa_cons (pe_ix ix_list (pv 2) pe_int (fun _ _ => rfl)) pa_nil)))))) pss_nil)
    (pss_cons (ps_if (pt_cmpR op_eq (pv 1) pe_int (nomark _))
    (pss_one (ps_ret (pe_call (ok_when T) (hr.mono (by decide)) (by rfl) T.when.g T.when.F.kp T.when.b .nil pass0 (pa_cons (pv 0) (pa_cons (pe_ix ix_list (pv 2) pe_int (fun _ _ => rfl)) (pa_cons (pe_ix ix_list (pv 2) pe_int (fun _ _ => rfl)) pa_nil)))))) pss_nil)
    (pss_cons (ps_if (pt_cmpR op_eq (pv 1) pe_int (nomark _))
    (pss_one (ps_ret (pe_call (ok_date T) (hr.mono (by decide)) (by rfl) T.date.g T.date.F.kp T.date.b .nil pass0 (pa_cons (pv 0) (pa_cons (pe_ix ix_list (pv 2) pe_int (fun _ _ => rfl)) pa_nil))))) pss_nil)
    (pss_one (ps_ret (pe_call (ok_days T) (hr.mono (by decide)) (by rfl) T.days.g T.days.F.kp T.days.b .nil pass0 (pa_cons (pv 0) (pa_cons (pe_ix ix_list (pv 2) pe_int (fun _ _ => rfl)) (pa_cons (pe_ix ix_list (pv 2) pe_int (fun _ _ => rfl)) pa_nil))))))))))))))), ?_⟩
    cases hc
    case rate =>
      have ex := Ex.refl H
      refine q_when (b := true) (et_is (et_test (ev_eqI (ev_var rfl) ev_c)) rfl) (fun _ Hx ex1 => ?_) (fun z => by cases z)
      have ex := ex.trans ex1
      exact s_retCall (ea_cons (ev_var rfl) (ea_cons (ev_var rfl) ea_nil)) fun H1 e => ⟨L, s, lp, _, rfl, hS.ex (ex.trans e), (ex.trans e) _ _ hl, k.ex (ex.trans e)⟩
    case go =>
      have ex := Ex.refl H
      refine q_when (b := false) (et_is (et_test (ev_eqI (ev_var rfl) ev_c)) rfl) (fun z => by cases z) (fun _ Hx ex1 => ?_)
      have ex := ex.trans ex1
      refine q_when (b := true) (et_is (et_test (ev_eqI (ev_var rfl) ev_c)) rfl) (fun _ Hx ex2 => ?_) (fun z => by cases z)
      have ex := ex.trans ex2
      exact s_retCall (ea_cons (ev_var rfl) (ea_cons (ev_ixL (j := 0) (ev_var rfl) ev_c (SqL.of (ex _ _ hw)) rfl rfl) ea_nil)) fun H1 e => ⟨L, s, _, rfl, hS.ex (ex.trans e), by assumption, k.ex (ex.trans e)⟩
    case show_ =>
      have ex := Ex.refl H
      refine q_when (b := false) (et_is (et_test (ev_eqI (ev_var rfl) ev_c)) rfl) (fun z => by cases z) (fun _ Hx ex1 => ?_)
      have ex := ex.trans ex1
      refine q_when (b := false) (et_is (et_test (ev_eqI (ev_var rfl) ev_c)) rfl) (fun z => by cases z) (fun _ Hx ex2 => ?_)
      have ex := ex.trans ex2
      refine q_when (b := true) (et_is (et_test (ev_eqI (ev_var rfl) ev_c)) rfl) (fun _ Hx ex3 => ?_) (fun z => by cases z)
      have ex := ex.trans ex3
      exact s_retCall (ea_cons (ev_var rfl) ea_nil) fun H1 e => ⟨L, s, rfl, hS.ex (ex.trans e), k.ex (ex.trans e)⟩
    case turn =>
      have ex := Ex.refl H
      refine q_when (b := false) (et_is (et_test (ev_eqI (ev_var rfl) ev_c)) rfl) (fun z => by cases z) (fun _ Hx ex1 => ?_)
      have ex := ex.trans ex1
      refine q_when (b := false) (et_is (et_test (ev_eqI (ev_var rfl) ev_c)) rfl) (fun z => by cases z) (fun _ Hx ex2 => ?_)
      have ex := ex.trans ex2
      refine q_when (b := false) (et_is (et_test (ev_eqI (ev_var rfl) ev_c)) rfl) (fun z => by cases z) (fun _ Hx ex3 => ?_)
      have ex := ex.trans ex3
      refine q_when (b := true) (et_is (et_test (ev_eqI (ev_var rfl) ev_c)) rfl) (fun _ Hx ex4 => ?_) (fun z => by cases z)
      have ex := ex.trans ex4
      exact s_retCall (ea_cons (ev_var rfl) (ea_cons (ev_ixL (j := 0) (ev_var rfl) ev_c (SqL.of (ex _ _ hw)) rfl rfl) (ea_cons (ev_ixL (j := 1) (ev_var rfl) ev_c (SqL.of (ex _ _ hw)) rfl rfl) ea_nil))) fun H1 e => ⟨L, s, _, _, rfl, hS.ex (ex.trans e), k.ex (ex.trans e)⟩
    case lift =>
      have ex := Ex.refl H
      refine q_when (b := false) (et_is (et_test (ev_eqI (ev_var rfl) ev_c)) rfl) (fun z => by cases z) (fun _ Hx ex1 => ?_)
      have ex := ex.trans ex1
      refine q_when (b := false) (et_is (et_test (ev_eqI (ev_var rfl) ev_c)) rfl) (fun z => by cases z) (fun _ Hx ex2 => ?_)
      have ex := ex.trans ex2
      refine q_when (b := false) (et_is (et_test (ev_eqI (ev_var rfl) ev_c)) rfl) (fun z => by cases z) (fun _ Hx ex3 => ?_)
      have ex := ex.trans ex3
      refine q_when (b := false) (et_is (et_test (ev_eqI (ev_var rfl) ev_c)) rfl) (fun z => by cases z) (fun _ Hx ex4 => ?_)
      have ex := ex.trans ex4
      refine q_when (b := true) (et_is (et_test (ev_eqI (ev_var rfl) ev_c)) rfl) (fun _ Hx ex5 => ?_) (fun z => by cases z)
      have ex := ex.trans ex5
      exact s_retCall (ea_cons (ev_var rfl) (ea_cons (ev_ixL (j := 0) (ev_var rfl) ev_c (SqL.of (ex _ _ hw)) rfl rfl) ea_nil)) fun H1 e => ⟨L, s, _, rfl, hS.ex (ex.trans e), k.ex (ex.trans e)⟩
    case astray =>
      have ex := Ex.refl H
      refine q_when (b := false) (et_is (et_test (ev_eqI (ev_var rfl) ev_c)) rfl) (fun z => by cases z) (fun _ Hx ex1 => ?_)
      have ex := ex.trans ex1
      refine q_when (b := false) (et_is (et_test (ev_eqI (ev_var rfl) ev_c)) rfl) (fun z => by cases z) (fun _ Hx ex2 => ?_)
      have ex := ex.trans ex2
      refine q_when (b := false) (et_is (et_test (ev_eqI (ev_var rfl) ev_c)) rfl) (fun z => by cases z) (fun _ Hx ex3 => ?_)
      have ex := ex.trans ex3
      refine q_when (b := false) (et_is (et_test (ev_eqI (ev_var rfl) ev_c)) rfl) (fun z => by cases z) (fun _ Hx ex4 => ?_)
      have ex := ex.trans ex4
      refine q_when (b := false) (et_is (et_test (ev_eqI (ev_var rfl) ev_c)) rfl) (fun z => by cases z) (fun _ Hx ex5 => ?_)
      have ex := ex.trans ex5
      refine q_when (b := true) (et_is (et_test (ev_eqI (ev_var rfl) ev_c)) rfl) (fun _ Hx ex6 => ?_) (fun z => by cases z)
      have ex := ex.trans ex6
      exact s_retCall (ea_cons (ev_var rfl) (ea_cons (ev_ixL (j := 0) (ev_var rfl) ev_c (SqL.of (ex _ _ hw)) rfl rfl) (ea_cons (ev_ixL (j := 1) (ev_var rfl) ev_c (SqL.of (ex _ _ hw)) rfl rfl) ea_nil))) fun H1 e => ⟨L, s, _, _, rfl, hS.ex (ex.trans e), k.ex (ex.trans e)⟩
    case meets =>
      have ex := Ex.refl H
      refine q_when (b := false) (et_is (et_test (ev_eqI (ev_var rfl) ev_c)) rfl) (fun z => by cases z) (fun _ Hx ex1 => ?_)
      have ex := ex.trans ex1
      refine q_when (b := false) (et_is (et_test (ev_eqI (ev_var rfl) ev_c)) rfl) (fun z => by cases z) (fun _ Hx ex2 => ?_)
      have ex := ex.trans ex2
      refine q_when (b := false) (et_is (et_test (ev_eqI (ev_var rfl) ev_c)) rfl) (fun z => by cases z) (fun _ Hx ex3 => ?_)
      have ex := ex.trans ex3
      refine q_when (b := false) (et_is (et_test (ev_eqI (ev_var rfl) ev_c)) rfl) (fun z => by cases z) (fun _ Hx ex4 => ?_)
      have ex := ex.trans ex4
      refine q_when (b := false) (et_is (et_test (ev_eqI (ev_var rfl) ev_c)) rfl) (fun z => by cases z) (fun _ Hx ex5 => ?_)
      have ex := ex.trans ex5
      refine q_when (b := false) (et_is (et_test (ev_eqI (ev_var rfl) ev_c)) rfl) (fun z => by cases z) (fun _ Hx ex6 => ?_)
      have ex := ex.trans ex6
      refine q_when (b := true) (et_is (et_test (ev_eqI (ev_var rfl) ev_c)) rfl) (fun _ Hx ex7 => ?_) (fun z => by cases z)
      have ex := ex.trans ex7
      exact s_retCall (ea_cons (ev_var rfl) (ea_cons (ev_ixL (j := 0) (ev_var rfl) ev_c (SqL.of (ex _ _ hw)) rfl rfl) (ea_cons (ev_ixL (j := 1) (ev_var rfl) ev_c (SqL.of (ex _ _ hw)) rfl rfl) ea_nil))) fun H1 e => ⟨L, s, _, _, rfl, hS.ex (ex.trans e), k.ex (ex.trans e)⟩
    case when_ =>
      have ex := Ex.refl H
      refine q_when (b := false) (et_is (et_test (ev_eqI (ev_var rfl) ev_c)) rfl) (fun z => by cases z) (fun _ Hx ex1 => ?_)
      have ex := ex.trans ex1
      refine q_when (b := false) (et_is (et_test (ev_eqI (ev_var rfl) ev_c)) rfl) (fun z => by cases z) (fun _ Hx ex2 => ?_)
      have ex := ex.trans ex2
      refine q_when (b := false) (et_is (et_test (ev_eqI (ev_var rfl) ev_c)) rfl) (fun z => by cases z) (fun _ Hx ex3 => ?_)
      have ex := ex.trans ex3
      refine q_when (b := false) (et_is (et_test (ev_eqI (ev_var rfl) ev_c)) rfl) (fun z => by cases z) (fun _ Hx ex4 => ?_)
      have ex := ex.trans ex4
      refine q_when (b := false) (et_is (et_test (ev_eqI (ev_var rfl) ev_c)) rfl) (fun z => by cases z) (fun _ Hx ex5 => ?_)
      have ex := ex.trans ex5
      refine q_when (b := false) (et_is (et_test (ev_eqI (ev_var rfl) ev_c)) rfl) (fun z => by cases z) (fun _ Hx ex6 => ?_)
      have ex := ex.trans ex6
      refine q_when (b := false) (et_is (et_test (ev_eqI (ev_var rfl) ev_c)) rfl) (fun z => by cases z) (fun _ Hx ex7 => ?_)
      have ex := ex.trans ex7
      refine q_when (b := true) (et_is (et_test (ev_eqI (ev_var rfl) ev_c)) rfl) (fun _ Hx ex8 => ?_) (fun z => by cases z)
      have ex := ex.trans ex8
      exact s_retCall (ea_cons (ev_var rfl) (ea_cons (ev_ixL (j := 0) (ev_var rfl) ev_c (SqL.of (ex _ _ hw)) rfl rfl) (ea_cons (ev_ixL (j := 1) (ev_var rfl) ev_c (SqL.of (ex _ _ hw)) rfl rfl) ea_nil))) fun H1 e => ⟨L, s, _, _, rfl, hS.ex (ex.trans e), k.ex (ex.trans e)⟩
    case date =>
      have ex := Ex.refl H
      refine q_when (b := false) (et_is (et_test (ev_eqI (ev_var rfl) ev_c)) rfl) (fun z => by cases z) (fun _ Hx ex1 => ?_)
      have ex := ex.trans ex1
      refine q_when (b := false) (et_is (et_test (ev_eqI (ev_var rfl) ev_c)) rfl) (fun z => by cases z) (fun _ Hx ex2 => ?_)
      have ex := ex.trans ex2
      refine q_when (b := false) (et_is (et_test (ev_eqI (ev_var rfl) ev_c)) rfl) (fun z => by cases z) (fun _ Hx ex3 => ?_)
      have ex := ex.trans ex3
      refine q_when (b := false) (et_is (et_test (ev_eqI (ev_var rfl) ev_c)) rfl) (fun z => by cases z) (fun _ Hx ex4 => ?_)
      have ex := ex.trans ex4
      refine q_when (b := false) (et_is (et_test (ev_eqI (ev_var rfl) ev_c)) rfl) (fun z => by cases z) (fun _ Hx ex5 => ?_)
      have ex := ex.trans ex5
      refine q_when (b := false) (et_is (et_test (ev_eqI (ev_var rfl) ev_c)) rfl) (fun z => by cases z) (fun _ Hx ex6 => ?_)
      have ex := ex.trans ex6
      refine q_when (b := false) (et_is (et_test (ev_eqI (ev_var rfl) ev_c)) rfl) (fun z => by cases z) (fun _ Hx ex7 => ?_)
      have ex := ex.trans ex7
      refine q_when (b := false) (et_is (et_test (ev_eqI (ev_var rfl) ev_c)) rfl) (fun z => by cases z) (fun _ Hx ex8 => ?_)
      have ex := ex.trans ex8
      refine q_when (b := true) (et_is (et_test (ev_eqI (ev_var rfl) ev_c)) rfl) (fun _ Hx ex9 => ?_) (fun z => by cases z)
      have ex := ex.trans ex9
      exact s_retCall (ea_cons (ev_var rfl) (ea_cons (ev_ixL (j := 0) (ev_var rfl) ev_c (SqL.of (ex _ _ hw)) rfl rfl) ea_nil)) fun H1 e => ⟨L, s, _, rfl, hS.ex (ex.trans e), k.ex (ex.trans e)⟩
    case days =>
      have ex := Ex.refl H
      refine q_when (b := false) (et_is (et_test (ev_eqI (ev_var rfl) ev_c)) rfl) (fun z => by cases z) (fun _ Hx ex1 => ?_)
      have ex := ex.trans ex1
      refine q_when (b := false) (et_is (et_test (ev_eqI (ev_var rfl) ev_c)) rfl) (fun z => by cases z) (fun _ Hx ex2 => ?_)
      have ex := ex.trans ex2
      refine q_when (b := false) (et_is (et_test (ev_eqI (ev_var rfl) ev_c)) rfl) (fun z => by cases z) (fun _ Hx ex3 => ?_)
      have ex := ex.trans ex3
      refine q_when (b := false) (et_is (et_test (ev_eqI (ev_var rfl) ev_c)) rfl) (fun z => by cases z) (fun _ Hx ex4 => ?_)
      have ex := ex.trans ex4
      refine q_when (b := false) (et_is (et_test (ev_eqI (ev_var rfl) ev_c)) rfl) (fun z => by cases z) (fun _ Hx ex5 => ?_)
      have ex := ex.trans ex5
      refine q_when (b := false) (et_is (et_test (ev_eqI (ev_var rfl) ev_c)) rfl) (fun z => by cases z) (fun _ Hx ex6 => ?_)
      have ex := ex.trans ex6
      refine q_when (b := false) (et_is (et_test (ev_eqI (ev_var rfl) ev_c)) rfl) (fun z => by cases z) (fun _ Hx ex7 => ?_)
      have ex := ex.trans ex7
      refine q_when (b := false) (et_is (et_test (ev_eqI (ev_var rfl) ev_c)) rfl) (fun z => by cases z) (fun _ Hx ex8 => ?_)
      have ex := ex.trans ex8
      refine q_when (b := false) (et_is (et_test (ev_eqI (ev_var rfl) ev_c)) rfl) (fun z => by cases z) (fun _ Hx ex9 => ?_)
      have ex := ex.trans ex9
      exact s_retCall (ea_cons (ev_var rfl) (ea_cons (ev_ixL (j := 0) (ev_var rfl) ev_c (SqL.of (ex _ _ hw)) rfl rfl) (ea_cons (ev_ixL (j := 1) (ev_var rfl) ev_c (SqL.of (ex _ _ hw)) rfl rfl) ea_nil))) fun H1 e => ⟨L, s, _, _, rfl, hS.ex (ex.trans e), k.ex (ex.trans e)⟩
end
end Cw

/-! Calls, in plain Lean: how they stand in one list; what stays good. -/
namespace Cw
open PySem PySem.Spec PyProof.Rows L2 Evl
open Mu07 (State Goes Works Star Q frac Bytes struck step Call Abs Ans begun strikes)
open Mu07Neutral (callOf asked1 nats)
theorem whole_id (c : List (List Int)) : PyMu07.whole c = c := by
  unfold PyMu07.whole
  split <;> rfl
theorem whole_map (cs : List (List (List Int))) : cs.map PyMu07.whole = cs := by
  have : PyMu07.whole = id := funext whole_id
  rw [this, List.map_id]
/-- one call at the head of a list -/
structure CallAt (p : Int) (r : List Int) (q n k : Nat) : Prop where
  q10 : q ≤ 10
  pq : p = (q : Int)
  wn : wholeV[q]? = some (.int (n : Nat))
  rk : rowsV[q]? = some (.int (k : Nat))
  k1 : k = 0 ∨ k = 1
  n2 : n ≤ 2
  nr : n ≤ r.length
theorem shape_inv {p : Int} {n k : Nat} (h : PyMu07.shape p = some (n, k)) : ∃ q : Nat, q ≤ 10 ∧ p = (q : Int) ∧ wholeV[q]? = some (.int (n : Nat)) ∧ rowsV[q]? = some (.int (k : Nat)) ∧ (k = 0 ∨ k = 1) ∧ n ≤ 2 := by
  unfold PyMu07.shape at h
  split at h
  · cases h; exact ⟨0, by decide, by assumption, rfl, rfl, Or.inr rfl, by decide⟩
  split at h
  · cases h; exact ⟨1, by decide, by assumption, rfl, rfl, Or.inr rfl, by decide⟩
  split at h
  · cases h; exact ⟨2, by decide, by assumption, rfl, rfl, Or.inl rfl, by decide⟩
  split at h
  · cases h; exact ⟨3, by decide, by assumption, rfl, rfl, Or.inl rfl, by decide⟩
  split at h
  · cases h; exact ⟨4, by decide, by assumption, rfl, rfl, Or.inl rfl, by decide⟩
  split at h
  · cases h; exact ⟨5, by decide, by assumption, rfl, rfl, Or.inl rfl, by decide⟩
  split at h
  · cases h; exact ⟨6, by decide, by assumption, rfl, rfl, Or.inl rfl, by decide⟩
  split at h
  · cases h; exact ⟨7, by decide, by assumption, rfl, rfl, Or.inl rfl, by decide⟩
  split at h
  · cases h; exact ⟨8, by decide, by assumption, rfl, rfl, Or.inl rfl, by decide⟩
  split at h
  · cases h; exact ⟨9, by decide, by assumption, rfl, rfl, Or.inl rfl, by decide⟩
  split at h
  · cases h; exact ⟨10, by decide, by assumption, rfl, rfl, Or.inl rfl, by decide⟩
  cases h
theorem call_inv {p : Int} {r : List Int} {c : List (List Int)} {t : List Int} (h : PyFlat.call PyMu07.shape (p :: r) = some (c, t)) : ∃ q n k, CallAt p r q n k ∧
    ((k = 0 ∧ c = [p :: r.take n] ∧ t = r.drop n) ∨ (k = 1 ∧ ∃ (m : Nat) (r' : List Int), r.drop n = (m : Int) :: r' ∧ m ≤ r'.length ∧ c = [p :: r.take n, r'.take m] ∧ t = r'.drop m)) := by
  unfold PyFlat.call at h
  dsimp only at h
  cases hs : PyMu07.shape p with
  | none =>
    rw [hs] at h
    cases h
  | some nk =>
    obtain ⟨n, k⟩ := nk
    rw [hs] at h
    try dsimp only at h
    obtain ⟨q, q10, pq, wn, rk, k1, n2⟩ := shape_inv hs
    split at h
    · cases h
    · rename_i hn
      refine ⟨q, n, k, ⟨q10, pq, wn, rk, k1, n2, by omega⟩, ?_⟩
      rcases k1 with rfl | rfl
      · cases h
        exact Or.inl ⟨rfl, rfl, rfl⟩
      · right
        refine ⟨rfl, ?_⟩
        unfold PyFlat.rows at h
        cases hd : r.drop n with
        | nil =>
          rw [hd] at h
          cases h
        | cons x r' =>
          rw [hd] at h
          unfold PyFlat.row at h
          dsimp only at h
          by_cases hx : 0 ≤ x ∧ x.toNat ≤ r'.length
          · rw [if_pos hx] at h
            cases h
            exact ⟨x.toNat, r', by rw [Int.toNat_of_nonneg hx.1], hx.2, rfl, rfl⟩
          · rw [if_neg hx] at h
            cases h
theorem calls_nil {f : Nat} {cs : List (List (List Int))} (h : PyFlat.calls PyMu07.shape f [] = some cs) : cs = [] := by
  cases f <;> (cases h; rfl)
theorem calls_cons {f : Nat} {p : Int} {r : List Int} {cs : List (List (List Int))} (h : PyFlat.calls PyMu07.shape f (p :: r) = some cs) : ∃ f' c t cs', PyFlat.call PyMu07.shape (p :: r) = some (c, t) ∧ PyFlat.calls PyMu07.shape f' t = some cs' ∧ cs = c :: cs' := by
  cases f with
  | zero => cases h
  | succ f =>
    unfold PyFlat.calls at h
    cases hc : PyFlat.call PyMu07.shape (p :: r) with
    | none =>
      rw [hc] at h
      cases h
    | some ct =>
      obtain ⟨c, t⟩ := ct
      rw [hc] at h
      dsimp only at h
      cases ht : PyFlat.calls PyMu07.shape f t with
      | none =>
        rw [ht] at h
        cases h
      | some cs' =>
        rw [ht] at h
        cases h
        exact ⟨f, c, t, cs', rfl, ht, rfl⟩
theorem nats_by {l : List Int} (h : ∀ z ∈ l, 0 ≤ z) : zV l = byV (nats l) := by
  unfold zV byV nats
  rw [List.map_map]
  refine List.map_congr_left fun z hz => ?_
  have := h z hz
  show V.int z = V.int ((z.toNat : Nat) : Int)
  rw [Int.toNat_of_nonneg this]
theorem place_nat {z : Int} (h : Mu07Neutral.place z = true) : z = ((z.toNat : Nat) : Int) := by
  unfold Mu07Neutral.place NeutralIO.within at h
  rw [Bool.and_eq_true] at h
  have := of_decide_eq_true h.1
  omega
theorem within_nat {z hi : Int} (h : NeutralIO.within z 0 hi = true) : z = ((z.toNat : Nat) : Int) ∧ z ≤ hi := by
  unfold NeutralIO.within at h
  rw [Bool.and_eq_true] at h
  have := of_decide_eq_true h.1
  have := of_decide_eq_true h.2
  omega
theorem seen_nn {z : Int} (h : Mu07Neutral.seen z = true) : 0 ≤ z := by
  unfold Mu07Neutral.seen NeutralIO.within at h
  rw [Bool.and_eq_true] at h
  have := of_decide_eq_true h.1
  omega
/-- a read that's asked -/
theorem asked_read {w X : List Int} (h : asked1 [0 :: w, X] = true) : w = [] ∧ X.length ≤ 4000 ∧ zV X = byV (nats X) ∧ callOf [0 :: w, X] = some (.read (nats X)) := by
  cases w with
  | cons a r => exact absurd h (by cases r <;> (try cases ‹List Int›) <;> exact fun z => by cases z)
  | nil =>
    have h : Mu07Neutral.text X = true := h
    unfold Mu07Neutral.text at h
    rw [Bool.and_eq_true] at h
    refine ⟨rfl, of_decide_eq_true h.1, nats_by fun z hz => ?_, rfl⟩
    have := List.all_eq_true.mp h.2 z hz
    rcases Bool.or_eq_true_iff.mp this with y | y
    · have : z = 10 := by simpa using y
      omega
    · exact seen_nn y
theorem vint {a : Int} {n : Nat} (h : some (V.int a) = some (V.int (n : Int))) : (n : Int) = a := by
  injection h with h
  injection h with h
  exact h.symm
/-- any other call that's asked -/
theorem asked_other {q n k : Nat} {p : Int} {r X : List Int} (hc : CallAt p r q n k) (h1 : 1 ≤ q) (hX : k = 0 → X = []) (h : asked1 ((p :: r.take n) :: (if k = 1 then [X] else [])) = true) :
    ∃ c0, callOf ((p :: r.take n) :: (if k = 1 then [X] else [])) = some c0 ∧ CallIs q (r.take n) (nats X) c0 ∧ zV X = byV (nats X) := by
  obtain ⟨q10, rfl, wn, rk, k1, n2, nr⟩ := hc
  have hq : q = 1 ∨ q = 2 ∨ q = 3 ∨ q = 4 ∨ q = 5 ∨ q = 6 ∨ q = 7 ∨ q = 8 ∨ q = 9 ∨ q = 10 := by omega
  have lw : (r.take n).length = n := by rw [List.length_take]; omega
  generalize r.take n = w at *
  have nX : X = [] → nats X = [] := fun e => by rw [e]; rfl
  have zX : X = [] → zV X = byV (nats X) := fun e => by rw [e]; rfl
  rcases hq with rfl | rfl | rfl | rfl | rfl | rfl | rfl | rfl | rfl | rfl
  · have e1 : n = 0 := (by have := vint (a := 0) wn; omega)
    have e2 : k = 1 := (by have := vint (a := 1) rk; omega)
    subst e1 e2
    have ew : w = [] := List.eq_nil_of_length_eq_zero lw
    subst ew
    have h : Mu07Neutral.name X = true := h
    unfold Mu07Neutral.name at h
    rw [Bool.and_eq_true, Bool.and_eq_true] at h
    exact ⟨.rate (nats X), rfl, .rate _, nats_by fun z hz => seen_nn (List.all_eq_true.mp h.2.2 z hz)⟩
  · have e1 : n = 1 := (by have := vint (a := 1) wn; omega)
    have e2 : k = 0 := (by have := vint (a := 0) rk; omega)
    subst e1 e2
    match w, lw with
    | [a], _ =>
      have h : NeutralIO.within a 0 100000000000 = true := h
      obtain ⟨ha, hb⟩ := within_nat h
      refine ⟨.go a.toNat, rfl, ?_, zX (hX rfl)⟩
      rw [nX (hX rfl)]
      have := CallIs.go a.toNat (by omega)
      rwa [← ha] at this
  · have e1 : n = 0 := (by have := vint (a := 0) wn; omega)
    have e2 : k = 0 := (by have := vint (a := 0) rk; omega)
    subst e1 e2
    have ew : w = [] := List.eq_nil_of_length_eq_zero lw
    subst ew
    refine ⟨.show_, rfl, ?_, zX (hX rfl)⟩
    rw [nX (hX rfl)]
    exact .show_
  · have e1 : n = 2 := (by have := vint (a := 2) wn; omega)
    have e2 : k = 0 := (by have := vint (a := 0) rk; omega)
    subst e1 e2
    match w, lw with
    | [a, b], _ =>
      have h : (Mu07Neutral.place a && NeutralIO.within b (-2000) 2000) = true := h
      rw [Bool.and_eq_true] at h
      have ha := place_nat h.1
      refine ⟨.turn a.toNat b, rfl, ?_, zX (hX rfl)⟩
      rw [nX (hX rfl)]
      have := CallIs.turn a.toNat b
      rwa [← ha] at this
  · have e1 : n = 1 := (by have := vint (a := 1) wn; omega)
    have e2 : k = 0 := (by have := vint (a := 0) rk; omega)
    subst e1 e2
    match w, lw with
    | [a], _ =>
      have ha := place_nat (show Mu07Neutral.place a = true from h)
      refine ⟨.lift a.toNat, rfl, ?_, zX (hX rfl)⟩
      rw [nX (hX rfl)]
      have := CallIs.lift a.toNat
      rwa [← ha] at this
  · have e1 : n = 2 := (by have := vint (a := 2) wn; omega)
    have e2 : k = 0 := (by have := vint (a := 0) rk; omega)
    subst e1 e2
    match w, lw with
    | [a, b], _ =>
      have h : (Mu07Neutral.place a && Mu07Neutral.place b) = true := h
      rw [Bool.and_eq_true] at h
      have ha := place_nat h.1
      have hb := place_nat h.2
      refine ⟨.astray a.toNat b.toNat, rfl, ?_, zX (hX rfl)⟩
      rw [nX (hX rfl)]
      have := CallIs.astray a.toNat b.toNat
      rwa [← ha, ← hb] at this
  · have e1 : n = 2 := (by have := vint (a := 2) wn; omega)
    have e2 : k = 0 := (by have := vint (a := 0) rk; omega)
    subst e1 e2
    match w, lw with
    | [a, b], _ =>
      have h : (Mu07Neutral.place a && Mu07Neutral.place b) = true := h
      rw [Bool.and_eq_true] at h
      have ha := place_nat h.1
      have hb := place_nat h.2
      refine ⟨.meets a.toNat b.toNat, rfl, ?_, zX (hX rfl)⟩
      rw [nX (hX rfl)]
      have := CallIs.meets a.toNat b.toNat
      rwa [← ha, ← hb] at this
  · have e1 : n = 2 := (by have := vint (a := 2) wn; omega)
    have e2 : k = 0 := (by have := vint (a := 0) rk; omega)
    subst e1 e2
    match w, lw with
    | [a, b], _ =>
      have h : (Mu07Neutral.place a && NeutralIO.within b 0 2000) = true := h
      rw [Bool.and_eq_true] at h
      have ha := place_nat h.1
      have hb := (within_nat h.2).1
      refine ⟨.when_ a.toNat b.toNat, rfl, ?_, zX (hX rfl)⟩
      rw [nX (hX rfl)]
      have := CallIs.when_ a.toNat b.toNat
      rwa [← ha, ← hb] at this
  · have e1 : n = 1 := (by have := vint (a := 1) wn; omega)
    have e2 : k = 0 := (by have := vint (a := 0) rk; omega)
    subst e1 e2
    match w, lw with
    | [a], _ =>
      have ha := place_nat (show Mu07Neutral.place a = true from h)
      refine ⟨.date a.toNat, rfl, ?_, zX (hX rfl)⟩
      rw [nX (hX rfl)]
      have := CallIs.date a.toNat
      rwa [← ha] at this
  · have e1 : n = 2 := (by have := vint (a := 2) wn; omega)
    have e2 : k = 0 := (by have := vint (a := 0) rk; omega)
    subst e1 e2
    match w, lw with
    | [a, b], _ =>
      have h : (Mu07Neutral.place a && NeutralIO.within b (-200000) 200000) = true := h
      rw [Bool.and_eq_true] at h
      have ha := place_nat h.1
      refine ⟨.days a.toNat b, rfl, ?_, zX (hX rfl)⟩
      rw [nX (hX rfl)]
      have := CallIs.days a.toNat b
      rwa [← ha] at this
/-! ### what stays good -/
def SetB (s : State) (b : Nat) : Prop := ∀ i, (s.set.getD i 0).natAbs ≤ b
theorem strikes_lt {s : State} (h : Good s) {i t : Nat} {x : Mu07.Striker} (hx : s.works.strikers[i]? = some x) (hh : x.hand = none) : (strikes s i t).2 < x.numbers.length := by
  rw [strikes_is hx]
  have g : ∀ (zs : List Nat) (nx : Nat), nx < x.numbers.length → (strikesL s i nx zs).2 < x.numbers.length := by
    intro zs
    induction zs with
    | nil => intro nx h; exact h
    | cons z r ih =>
      intro nx _
      rw [strikesL_cons]
      exact ih _ (struck_lt h hx hh)
  exact g _ _ (h.next i x hx hh)
theorem step_good {s : State} {b n : Nat} {w : List Int} {t : Bytes} {c : Call} (hG : Good s) (hB : SetB s b) (hc : CallIs n w t c) : ∃ s' a, step (some s) c = (some s', a) ∧ Good s' ∧ SetB s' (b + 1000) := by
  have keep : Good s ∧ SetB s (b + 1000) := ⟨hG, fun i => Nat.le_trans (hB i) (Nat.le_add_right _ _)⟩
  cases hc with
  | rate t => exact ⟨s, _, rfl, keep⟩
  | go z hz =>
    have e : step (some s) (.go z) = if 100000000000 < s.now + z then (some s, [-1]) else match Mu07.go s z with | none => (some s, [-3]) | some x => (some x.1, (x.2.length : Int) :: x.2.flatMap fun (y : Nat × Nat × Nat) => [(y.1 : Int), (y.2.1 : Int), (y.2.2 : Int)]) := rfl
    rw [e]
    by_cases h1 : 100000000000 < s.now + z
    · rw [if_pos h1]
      exact ⟨s, _, rfl, keep⟩
    · rw [if_neg h1, go_is]
      by_cases h2 : 400 < totalTo s (s.now + z) s.works.strikers.length
      · rw [if_pos h2]
        exact ⟨s, _, rfl, keep⟩
      · rw [if_neg h2]
        refine ⟨_, _, rfl, ⟨hG.wf, hG.rates, hG.lset, by simp, hG.ldays, fun i x hx hh => ?_, by show s.now + z ≤ _; omega⟩, keep.2⟩
        show ((List.range s.works.strikers.length).map fun (i : Nat) => (strikes s i (s.now + z)).2).getD i 0 < _
        have hi := lt_of_get hx
        rw [List.getD_eq_getElem?_getD, List.getElem?_map, List.getElem?_range hi]
        exact strikes_lt hG hx hh
  | show_ => exact ⟨s, _, rfl, keep⟩
  | turn h k =>
    have e : step (some s) (.turn h k) = if s.works.hands.length ≤ h then (some s, [-2]) else if Mu07.inBounds k (-1000) 1000 = false then (some s, [-1]) else (some { s with set := s.set.set h (s.set.getD h 0 + k) }, [0, Mu07.shows { s with set := s.set.set h (s.set.getD h 0 + k) } h s.now]) := rfl
    rw [e]
    by_cases h1 : s.works.hands.length ≤ h
    · rw [if_pos h1]
      exact ⟨s, _, rfl, keep⟩
    · rw [if_neg h1]
      by_cases h2 : Mu07.inBounds k (-1000) 1000 = false
      · rw [if_pos h2]
        exact ⟨s, _, rfl, keep⟩
      · rw [if_neg h2]
        have h2 : Mu07.inBounds k (-1000) 1000 = true := by simpa using h2
        unfold Mu07.inBounds at h2
        rw [Bool.and_eq_true] at h2
        have k1 := of_decide_eq_true h2.1
        have k2 := of_decide_eq_true h2.2
        refine ⟨_, _, rfl, ⟨hG.wf, hG.rates, by show (s.set.set _ _).length = _; rw [List.length_set]; exact hG.lset, hG.lnext, hG.ldays, hG.next, hG.now⟩, fun j => ?_⟩
        show ((s.set.set h (s.set.getD h 0 + k)).getD j 0).natAbs ≤ _
        rw [setZ_getD (by rw [hG.lset]; omega)]
        have := hB h
        have := hB j
        split <;> omega
  | lift i =>
    have e : step (some s) (.lift i) = if s.works.strikers.length ≤ i then (some s, [-2]) else (some { s with next := s.next.set i (struck s i (s.next.getD i 0) s.now).2 }, [0, ((struck s i (s.next.getD i 0) s.now).1 : Int)]) := rfl
    rw [e]
    by_cases h1 : s.works.strikers.length ≤ i
    · rw [if_pos h1]
      exact ⟨s, _, rfl, keep⟩
    · rw [if_neg h1]
      exact ⟨_, _, rfl, hG.struck i s.now, keep.2⟩
  | astray i h => exact ⟨s, _, rfl, keep⟩
  | meets g h => exact ⟨s, _, rfl, keep⟩
  | when_ h m => exact ⟨s, _, rfl, keep⟩
  | date c => exact ⟨s, _, rfl, keep⟩
  | days c n =>
    have e : step (some s) (.days c n) = if s.works.calendars.length ≤ c then (some s, [-2]) else if Mu07.inBounds n (-100000) 100000 = false then (some s, [-1]) else (some { s with days := s.days.set c (s.days.getD c 0 + n) }, [0]) := rfl
    rw [e]
    by_cases h1 : s.works.calendars.length ≤ c
    · rw [if_pos h1]
      exact ⟨s, _, rfl, keep⟩
    · rw [if_neg h1]
      by_cases h2 : Mu07.inBounds n (-100000) 100000 = false
      · rw [if_pos h2]
        exact ⟨s, _, rfl, keep⟩
      · rw [if_neg h2]
        exact ⟨_, _, rfl, ⟨hG.wf, hG.rates, hG.lset, hG.lnext, by show (s.days.set _ _).length = _; rw [List.length_set]; exact hG.ldays, hG.next, hG.now⟩, keep.2⟩
end Cw

/-! The walk through works: all answers. -/
namespace Cw
open PySem PySem.Spec PyProof.Rows L2 Evl
open Mu07 (State Goes Works Star Q frac Bytes struck step Call Abs Ans begun)
open Mu07Neutral (callOf asked1 nats)
theorem fnok_some {P : Program} {w : World} {K : PySem.W.Frag} {mg : Str → Option Value} {base : Heap} {CX : CXT} {k : Nat} {f : Addr} {fd : FuncData} {ps : List Str} {ι : Type} {sp : ι → Sp} (h : ∀ i, FnOk P w K mg base CX k f fd ps (sp i)) : FnOk P w K mg base CX k f fd ps (fun vs H Q E => ∃ i, sp i vs H Q E) :=
  ⟨fun vs H Q E q => by
    obtain ⟨i, q⟩ := q
    exact (h i).1 vs H Q E q, fun A outer s H args us vs Q E a b c d q => by
    obtain ⟨i, q⟩ := q
    exact (h i).2 A outer s H args us vs Q E a b c d q⟩
section
variable {K : PySem.W.Frag} {mg : Str → Option Value} {T : Txt K mg} {σ : L2.St} {H H' H0 : Hp} {D : Ends} {tz : TS} {te ta : TE} {L : Lay}
theorem s_asgC {sp : Sp} {dvs vs : List V} {E : XK} {tA : TA} {i : Nat} (h : EvA tA σ H vs) (k : ∀ H1, Ex H H1 → sp (vs ++ dvs) H1 (fun v H2 => D.nx (σ.set i (some v)) H2) E) : tAsg (tCall sp dvs E tA) (gName i) D σ H := h H (Ex.refl H) _ k
/-- xs.append(e), xs of any length -/
theorem q_appBig {l : Addr} {xs : List V} {v : V} (hl : H l = some (.lst xs)) (ha : Ev ta σ H (.ref l)) (h : Ev te σ H v) (hz : xs.length < sizeLine) (k : ∀ H1, Ex H H1 → tz D σ (upd H1 l (.lst (xs ++ [v])))) : tSeq (tDrop (tBM K "list" rAppend ta (tCons te tNil))) tz D σ H :=
  ha H (Ex.refl H) _ fun H1 e1 => ⟨Or.inl ⟨rfl, xs, sq_of (e1 l _ hl)⟩, h H1 e1 _ fun H2 e2 => ⟨l, xs, v, rfl, rfl, (e1.trans e2) l _ hl, hz, k H2 (e1.trans e2)⟩⟩
theorem s_extBig {l b : Addr} {xs ys : List V} (hl : H l = some (.lst xs)) (hb : H b = some (.lst ys)) (ha : Ev ta σ H (.ref l)) (h : Ev te σ H (.ref b)) (hz : xs.length + ys.length ≤ sizeLine) (k : ∀ H1, Ex H H1 → D.nx σ (upd H1 l (.lst (xs ++ ys)))) : tDrop (tBM K "list" rExtend ta (tCons te tNil)) D σ H :=
  ha H (Ex.refl H) _ fun H1 e1 => ⟨Or.inl ⟨rfl, xs, sq_of (e1 l _ hl)⟩, h H1 e1 _ fun H2 e2 => ⟨l, b, xs, ys, rfl, rfl, (e1.trans e2) l _ hl, (e1.trans e2) b _ hb, hz, k H2 (e1.trans e2)⟩⟩
theorem BenchAt.ex {b bx : Addr} {o : Abs} (h : BenchAt T H b bx o) (e : Ex H H') : BenchAt T H' b bx o := by
  cases o with
  | none => exact e _ _ h
  | some s =>
    obtain ⟨L, h1, h2, h3⟩ := h
    exact ⟨L, e _ _ h1, h2.ex e, h3⟩
theorem BenchAt.offTd {b bx : Addr} {o : Abs} {l : List V} (h : BenchAt T H b bx o) (hl : H T.td = some (.lst l)) (e : ExB T.td H H') : BenchAt T H' b bx o := by
  have ins : ∀ {p C dx : Addr} {fs : List (Str × V)}, H p = some (.ins C dx fs) → H' p = some (.ins C dx fs) := fun {p C dx fs} hp => e _ _ (fun z => by rw [z, hl] at hp; cases hp) hp
  cases o with
  | none => exact ins h
  | some s =>
    obtain ⟨L, h1, h2, h3⟩ := h
    exact ⟨L, ins h1, h2.offTd hl h3 e, h3⟩
theorem BenchAt.ins {b bx : Addr} {o : Abs} (h : BenchAt T H b bx o) : ∃ wk, H b = some (.ins T.Bench.C bx (benchF wk)) ∧ (decide (wk = V.non) = o.isNone) := by
  cases o with
  | none => exact ⟨.non, h, rfl⟩
  | some s =>
    obtain ⟨L, h1, _⟩ := h
    exact ⟨.ref L.a, h1, decide_eq_false fun z => by cases z⟩
/-- what calls change are instances -/
theorem WAt.chg_ins {s : State} (h : WAt T H L s) {a : Addr} (m : a ∈ chg L) : ∃ C dx fs, H a = some (.ins C dx fs) ∧ fs.map (·.1) ≠ benchK := by
  unfold chg at m
  rcases List.mem_cons.mp m with rfl | m
  · exact ⟨_, _, _, h.w, by show worksK ≠ _; decide⟩
  · rcases List.mem_append.mp m with m | m
    · rcases List.mem_append.mp m with m | m
      · obtain ⟨j, hj, e⟩ := List.mem_iff_getElem.mp m
        obtain ⟨_, _, _, _, _, h2, _⟩ := h.hands j a (by rw [← e]; exact List.getElem?_eq_getElem hj)
        exact ⟨_, _, _, h2, by show handK ≠ _; decide⟩
      · obtain ⟨j, hj, e⟩ := List.mem_iff_getElem.mp m
        obtain ⟨_, _, _, _, _, _, _, h2, _⟩ := h.strks j a (by rw [← e]; exact List.getElem?_eq_getElem hj)
        exact ⟨_, _, _, h2, by show strikerK ≠ _; decide⟩
    · obtain ⟨j, hj, e⟩ := List.mem_iff_getElem.mp m
      obtain ⟨_, _, _, _, _, h2, _⟩ := h.cals j a (by rw [← e]; exact List.getElem?_eq_getElem hj)
      exact ⟨_, _, _, h2, by show calK ≠ _; decide⟩
theorem KLst.chg {s : State} (h : WAt T H L s) (k : KeptL (chg L) H H') : KLst H H' := fun a o ho n => k a _ ho fun m => by
  obtain ⟨C, dx, fs, e, _⟩ := h.chg_ins m
  rw [ho] at e
  exact n _ _ _ (Option.some.inj e)
theorem step_none {n : Nat} {w : List Int} {t : Bytes} {c : Call} (h : CallIs n w t c) : step none c = (none, [-9]) := by cases h <;> rfl
/-- the calls' list stands, whatever is written to td -/
theorem sq_off {cp td : Addr} {xs : List V} (h : SqL K H cp xs) (o : cp ≠ td ∨ ∀ H, SqL K H cp xs) (e : ExB td H H') : SqL K H' cp xs := by
  rcases o with o | o
  · rcases h with h | h
    · refine Or.inl ?_
      rcases h with h | ⟨z, h⟩
      · exact Or.inl (e _ _ o h)
      · exact Or.inr ⟨z, e _ _ o h⟩
    · exact Or.inr h
  · exact o _
theorem cp_off {cp td : Addr} {xs : List V} {H1 : Hp} (h : SqL K H cp xs) (e : Ex H H1) (n : H1 td = none) : cp ≠ td ∨ ∀ H, SqL K H cp xs := by
  rcases h with h | h
  · refine Or.inl fun z => ?_
    rw [← z] at n
    rcases h with h | ⟨y, h⟩
    · rw [e _ _ h] at n
      cases n
    · rw [e _ _ h] at n
      cases n
  · exact Or.inr fun _ => Or.inr h
theorem cut_both (xs : List V) (a b : Nat) (h : a ≤ b) (hb : b ≤ xs.length) : cutV xs (some (a : Int)) (some (b : Int)) = (xs.drop a).take (b - a) := by
  unfold cutV
  rw [HT.sIx_nat, HT.sIx_nat, Nat.min_eq_left (show a ≤ xs.length by omega), Nat.min_eq_left hb]
end
section
variable {P : Program} {w : World} {K : PySem.W.Frag} {mg : Str → Option Value} {base : Heap} (T : Txt K mg)
def spReadE : Sp := fun vs H Q E => ∃ td : Addr, spReadA (T.off td) vs H Q E
theorem okE_read : FnOk P w K mg base CX0 8 T.read.f T.read.fd ["bench", "text"] (spReadE T) := fnok_some (sp := fun td => spReadA (T.off td)) fun td => ok_readA (T.off td)
def spWAE : Sp := fun vs H Q E => ∃ td : Addr, spWA (T.off td) vs H Q E
theorem okE_works_answer : FnOk P w K mg base CX0 21 T.works_answer.f T.works_answer.fd ["works", "number", "w", "letters"] (spWAE T) := fnok_some (sp := fun td => spWA (T.off td)) fun td => ok_works_answerA (T.off td)
/-- the state behind u calls at most -/
def GoodO (u : Nat) (o : Abs) : Prop := ∀ s, o = some s → Good s ∧ SetB s (1000 * u)
def spAnswers (K : PySem.W.Frag) : Sp := fun vs H Q _ => ∃ (cp : Addr) (l : List Int), vs = [.ref cp] ∧ SqL K H cp (zV l) ∧ PyMu07.answers_asked l = true ∧ l.length ≤ 20000 ∧ ∀ p H', H' p = some (.lst (zV (PyMu07.answers l))) → Q (.ref p) H'
theorem told_cons (a : List Int) (as : List (List Int)) : PyFlat.told (a :: as) = ((a.length : Int) :: a) ++ PyFlat.told as := rfl
theorem ok_answers : FnOk P w K mg base CX0 22 T.answers.f T.answers.fd ["calls"] (spAnswers K) := by
  refine T.answers.F.ok sc_answers (fun vs H Q E h => ?_) (fun cdv A outer s H vs Q E hr h => ?_)
  · obtain ⟨cp, l, rfl, _⟩ := h
    rfl
  · obtain ⟨cp, l, rfl, hcp, hask, hl, k⟩ := h
    refine ⟨_, (pss_cons (ps_set (i := 1) sc_answers.nd rfl (Or.inl rfl) (pe_make0 T.Bench.mkC (ok_Bench_init T) (hr.mono (by decide)) (by rfl) T.Bench.g T.Bench.b .nil pass0))
    (pss_cons (ps_set (i := 2) sc_answers.nd rfl (Or.inl rfl) (pe_lst pa_nil))
    (pss_cons (ps_set (i := 3) sc_answers.nd rfl (Or.inl rfl) pe_int)
    (pss_cons (ps_while PassesOwn.never (pt_cmpR op_lt (pv 3) (pe_callB call_len_seq (by rfl) T.b_len (by decide +kernel) (pa_cons (pv 0) pa_nil)) (nomark _))
    (pss_cons (ps_set (i := 4) sc_answers.nd rfl (Or.inl rfl) (pe_ix ix_list (pv 0) (pv 3) (fun _ _ => rfl)))
    (pss_cons (ps_set (i := 3) sc_answers.nd rfl (Or.inl rfl) (pe_op op_add (pv 3) pe_int))
    (pss_cons (ps_set (i := 5) sc_answers.nd rfl (Or.inl rfl) (pe_slice sl_list (pv 0) (po_some (pv 3)) (po_some (pe_op op_add (pv 3) (pe_ix ix_tup (pe_glob (v := .ref T.aW) rfl T.g_WHOLE_NUMBERS rfl) (pv 4) (fun _ _ => rfl))))))
    (pss_cons (ps_set (i := 3) sc_answers.nd rfl (Or.inl rfl) (pe_op op_add (pv 3) (pe_ix ix_tup (pe_glob (v := .ref T.aW) rfl T.g_WHOLE_NUMBERS rfl) (pv 4) (fun _ _ => rfl))))
    (pss_cons (ps_set (i := 6) sc_answers.nd rfl (Or.inl rfl) (pe_lst pa_nil))
    (pss_cut (ps_if (pt_cmpR op_eq (pe_ix ix_tup (pe_glob (v := .ref T.aR) rfl T.g_ROWS rfl) (pv 4) (fun _ _ => rfl)) pe_int (nomark _))
    (pss_cons (ps_set (i := 7) sc_answers.nd rfl (Or.inl rfl) (pe_ix ix_list (pv 0) (pv 3) (fun _ _ => rfl)))
    (pss_cons (ps_set (i := 6) sc_answers.nd rfl (Or.inl rfl) (pe_slice sl_list (pv 0) (po_some (pe_op op_add (pv 3) pe_int)) (po_some (pe_op op_add (pe_op op_add (pv 3) pe_int) (pv 7)))))
    (pss_one (ps_set (i := 3) sc_answers.nd rfl (Or.inl rfl) (pe_op op_add (pe_op op_add (pv 3) pe_int) (pv 7)))))) pss_nil)
    (pss_cut (ps_if (pt_cmpR op_eq (pv 4) pe_int (nomark _))
    (pss_one (ps_set (i := 8) sc_answers.nd rfl (Or.inl rfl) (pe_call (okE_read T) (hr.mono (by decide)) (by rfl) T.read.g T.read.F.kp T.read.b .nil pass0 (pa_cons (pv 1) (pa_cons (pv 6) pa_nil))))) (pss_one (ps_if (pt_cmpR op_isN (pe_fld (pv 1) rfl) pe_non (nomark _))
    (pss_one (ps_set (i := 8) sc_answers.nd rfl (Or.inl rfl) (pe_lst (pa_cons (pe_un un_neg pe_int) pa_nil)))) (pss_one (ps_set (i := 8) sc_answers.nd rfl (Or.inl rfl) (pe_call (okE_works_answer T) (hr.mono (by decide)) (by rfl) T.works_answer.g T.works_answer.F.kp T.works_answer.b .nil pass0 (pa_cons (pe_fld (pv 1) rfl) (pa_cons (pv 4) (pa_cons (pv 5) (pa_cons (pv 6) pa_nil))))))))))
    (pss_cons (ps_expr (pe_bm PySem.F.plainAttrs_list PySem.F.slot_list_append PySem.F.type_list_append mt_append (pv 2) (pa_cons (pe_callB call_len_seq (by rfl) T.b_len (by decide +kernel) (pa_cons (pv 8) pa_nil)) pa_nil)))
    (pss_one (ps_expr (pe_bm PySem.F.plainAttrs_list PySem.F.slot_list_extend PySem.F.type_list_extend mt_extend (pv 2) (pa_cons (pv 8) pa_nil)))))))))))))
    (pss_one (ps_ret (pv 2))))))), ?_⟩
    -- what's asked
    unfold PyMu07.answers_asked at hask
    have hans : PyMu07.answers l = match PyMu07.calls l with | none => [] | some cs => PyFlat.told (PyFlat.played Mu07Neutral.step Mu07Neutral.start cs) := rfl
    cases hcs : PyFlat.calls PyMu07.shape l.length l with
    | none =>
      rw [hcs] at hask
      cases hask
    | some raw =>
    rw [hcs] at hask
    dsimp only at hask
    rw [Bool.and_eq_true, Bool.and_eq_true, Bool.and_eq_true, Bool.and_eq_true, whole_map] at hask
    obtain ⟨⟨⟨⟨_, hmost⟩, _⟩, hasked⟩, hshort⟩ := hask
    have hmost : raw.length ≤ 100 := of_decide_eq_true hmost
    have hshort : (PyMu07.answers l).length ≤ 10000000 := of_decide_eq_true hshort
    have hall : ∀ c ∈ raw, asked1 c = true := by
      unfold Mu07Neutral.asked at hasked
      rw [Bool.and_eq_true, Bool.and_eq_true] at hasked
      exact List.all_eq_true.mp hasked.2.2
    have hans : PyMu07.answers l = PyFlat.told (PyFlat.played Mu07Neutral.step none raw) := by
      rw [hans]
      unfold PyMu07.calls
      rw [hcs]
      dsimp only
      rw [whole_map]
      rfl
    generalize PyMu07.answers l = AA at *
    have ll : (zV l).length = l.length := List.length_map _
    have zget : ∀ {i : Nat} {z : Int}, l[i]? = some z → (zV l)[i]? = some (.int z) := fun {i z} h => by
      unfold zV
      rw [List.getElem?_map, h]
      rfl
    refine q_asgI (C := T.Bench.C) (fs := benchF .non) (ei_make (vs := []) ea_nil fun H1 e1 => ⟨rfl, rfl⟩) fun b bx H1 nb e1 hb => ?_
    refine q_asgL (xs := []) (el_lst ea_nil (Nat.zero_le _)) fun td H2 ntd e2 htd => ?_
    refine q_asg ev_c fun H3 e3 => ?_
    have hb3 := (e2.trans e3) _ _ hb
    have htd3 := e3 _ _ htd
    have hcp3 := ex_l ((e1.trans e2).trans e3) hcp
    have hTtd : (T.off td).td = td := rfl
    refine q_while (fun m σ' H' => ∃ (at_ f u : Nat) (cs : List (List (List Int))) (o : Abs) (done : List Int) (o4 o5 o6 o7 o8 : Option V), σ' = [some (.ref cp), some (.ref b), some (.ref td), some (.int (at_ : Nat)), o4, o5, o6, o7, o8] ∧ m = l.length - at_ ∧ at_ ≤ l.length ∧ PyFlat.calls PyMu07.shape f (l.drop at_) = some cs ∧ (∀ c ∈ cs, asked1 c = true) ∧
        u + cs.length ≤ 100 ∧ AA = done ++ PyFlat.told (PyFlat.played Mu07Neutral.step o cs) ∧ SqL K H' cp (zV l) ∧ H' td = some (.lst (zV done)) ∧ BenchAt (T.off td) H' b bx o ∧ GoodO u o) l.length
      ⟨0, l.length, 0, raw, none, [], none, none, none, none, none, rfl, by omega, Nat.zero_le _, hcs, hall, by omega, hans, hcp3, htd3, hb3, fun s hs => by cases hs⟩ fun m σ' H' hw => ?_
    obtain ⟨at_, f, u, cs, o, done, o4, o5, o6, o7, o8, rfl, hm, hat, hcalls, hok, hu, hAA, hcp', htd', hB, hG⟩ := hw
    refine ⟨decide (at_ < l.length), et_is (et_test (ev_i (ev_var rfl) (ev_len (ev_var rfl) hcp'))) (by rw [ll]; exact dlt), fun hb H4 e4 => ?_, fun hb H4 e4 => ?_⟩
    · have hlt := of_decide_eq_true hb
      have hdrop : l.drop at_ = l[at_] :: l.drop (at_ + 1) := List.drop_eq_getElem_cons hlt
      have hp0 : l[at_]? = some l[at_] := List.getElem?_eq_getElem hlt
      rw [hdrop] at hcalls
      obtain ⟨f', c, t, cs', hcall, hrest, rfl⟩ := calls_cons hcalls
      obtain ⟨q, n, kk, hC, hcase⟩ := call_inv hcall
      have hasc : asked1 c = true := hok c (List.mem_cons_self ..)
      have hok' : ∀ c ∈ cs', asked1 c = true := fun c hc => hok c (List.mem_cons_of_mem _ hc)
      have hu' : (u + 1) + cs'.length ≤ 100 := by
        rw [List.length_cons] at hu
        omega
      have rl : (l.drop (at_ + 1)).length = l.length - (at_ + 1) := List.length_drop
      have hnr := hC.nr
      rw [rl] at hnr
      -- the step
      obtain ⟨o', ans, hstep⟩ : ∃ o' ans, Mu07Neutral.step o c = (o', ans) := ⟨_, _, rfl⟩
      have hAA' : AA = (done ++ ((ans.length : Int) :: ans)) ++ PyFlat.told (PyFlat.played Mu07Neutral.step o' cs') := by
        rw [hAA]
        show done ++ PyFlat.told ((Mu07Neutral.step o c).2 :: PyFlat.played Mu07Neutral.step (Mu07Neutral.step o c).1 cs') = _
        rw [hstep, told_cons, List.append_assoc]
      have hcp4 := ex_l e4 hcp'
      generalize l[at_] = p at *
      refine ⟨fun σ2 H2 => ∃ (a2 u2 : Nat) (o4 o5 o6 o7 o8 : Option V), σ2 = [some (.ref cp), some (.ref b), some (.ref td), some (.int (a2 : Nat)), o4, o5, o6, o7, o8] ∧ at_ < a2 ∧ a2 ≤ l.length ∧ l.drop a2 = t ∧ u2 + cs'.length ≤ 100 ∧ SqL K H2 cp (zV l) ∧ H2 td = some (.lst (zV (done ++ ((ans.length : Int) :: ans)))) ∧ BenchAt (T.off td) H2 b bx o' ∧ GoodO u2 o',
        fun σ2 H2 hN => ?_, ?_⟩
      · obtain ⟨a2, u2, o4, o5, o6, o7, o8, rfl, h1, h2, h3, h4, h5, h6, h7, h8⟩ := hN
        exact ⟨l.length - a2, by omega, a2, f', u2, cs', o', _, o4, o5, o6, o7, o8, rfl, rfl, h2, by rw [h3]; exact hrest, hok', h4, hAA', h5, h6, h7, h8⟩
      · refine q_asg (v := .int p) (ev_ixL (j := at_) (ev_var rfl) (ev_var rfl) hcp4 rfl (zget hp0)) fun H5 e5 => ?_
        have hcp5 := ex_l e5 hcp4
        have pq := hC.pq
        refine q_asg (v := .int ((at_ + 1 : Nat) : Int)) (ev_is (ev_i (ev_var rfl) ev_c) rfl) fun H6 e6 => ?_
        have hcp6 := ex_l e6 hcp5
        have hW : ∀ H, Ev (tOp (rIxT K) (tC (.ref T.aW)) (tVar 4)) [some (.ref cp), some (.ref b), some (.ref td), some (.int ((at_ + 1 : Nat) : Int)), some (.int p), o5, o6, o7, o8] H (.int (n : Nat)) := fun H => ev_ixT (j := q) ev_c (ev_var rfl) (T.s_WHOLE_NUMBERS H) pq hC.wn
        have hcut : cutV (zV l) (some ((at_ + 1 : Nat) : Int)) (some ((at_ + 1 + n : Nat) : Int)) = zV ((l.drop (at_ + 1)).take n) := by
          rw [cut_both _ _ _ (by omega) (by rw [ll]; omega)]
          unfold zV
          rw [← List.map_drop, ← List.map_take]
          congr 2
          omega
        refine q_asgL (xs := zV ((l.drop (at_ + 1)).take n)) (by
          rw [← hcut]
          exact el_sl (ev_var rfl) (eo_some (ev_var rfl)) (eo_some (ev_is (ev_i (ev_var rfl) (hW H6)) rfl)) hcp6) fun wp H7 nwp e7 hwp => ?_
        have hcp7 := ex_l e7 hcp6
        refine q_asg (v := .int ((at_ + 1 + n : Nat) : Int)) (ev_is (ev_i (ev_var rfl) (ev_ixT (j := q) ev_c (ev_var rfl) (T.s_WHOLE_NUMBERS H7) pq hC.wn)) rfl) fun H8 e8 => ?_
        have hcp8 := ex_l e8 hcp7
        refine q_asgL (xs := []) (el_lst ea_nil (Nat.zero_le _)) fun lp0 H9 nlp0 e9 hlp0 => ?_
        have hcp9 := ex_l e9 hcp8
        have e49 := ((((e4.trans e5).trans e6).trans e7).trans e8).trans e9
        have hwp9 := (e8.trans e9) _ _ hwp
        -- the letters
        refine q_cut (M := fun σ2 H2 => ∃ (a2 : Nat) (lp : Addr) (X : List Int) (o7 : Option V), σ2 = [some (.ref cp), some (.ref b), some (.ref td), some (.int (a2 : Nat)), some (.int p), some (.ref wp), some (.ref lp), o7, o8] ∧ Ex H9 H2 ∧ H2 lp = some (.lst (zV X)) ∧ at_ < a2 ∧ a2 ≤ l.length ∧ l.drop a2 = t ∧ c = (p :: (l.drop (at_ + 1)).take n) :: (if kk = 1 then [X] else []) ∧ (kk = 0 → X = [])) ?_ fun σ2 H10 hM => ?_
        · refine s_when (b := decide (kk = 1)) (et_is (et_test (ev_eqI (ev_ixT (j := q) ev_c (ev_var rfl) (T.s_ROWS H9) pq hC.rk) ev_c)) (by
            rcases hC.k1 with h | h
            · rw [h]; rfl
            · rw [h]; rfl)) (fun hb H10 e10 => ?_) (fun hb H10 e10 => ?_)
          · have hk1 := of_decide_eq_true hb
            rcases hcase with ⟨h0, _⟩ | ⟨_, m, r', hr', hmr, rfl, rfl⟩
            · omega
            · rw [List.drop_drop] at hr'
              have r'l : r'.length + 1 = l.length - (at_ + 1 + n) := by
                have := congrArg List.length hr'
                rw [List.length_drop, List.length_cons] at this
                omega
              have hm0 : l[at_ + 1 + n]? = some (m : Int) := by
                have := congrArg (fun z : List Int => z[0]?) hr'
                rw [List.getElem?_drop] at this
                exact this
              have hr'd : l.drop (at_ + 1 + n + 1) = r' := by
                have := congrArg (List.drop 1) hr'
                rw [List.drop_drop] at this
                exact this
              have hcp10 := ex_l e10 hcp9
              refine q_asg (v := .int (m : Int)) (ev_ixL (j := at_ + 1 + n) (ev_var rfl) (ev_var rfl) hcp10 rfl (zget hm0)) fun H11 e11 => ?_
              have hcp11 := ex_l e11 hcp10
              have hcut2 : cutV (zV l) (some ((at_ + 1 + n + 1 : Nat) : Int)) (some ((at_ + 1 + n + 1 + m : Nat) : Int)) = zV (r'.take m) := by
                rw [cut_both _ _ _ (by omega) (by rw [ll]; omega)]
                unfold zV
                rw [← List.map_drop, ← List.map_take, hr'd]
                congr 2
                omega
              refine q_asgL (xs := zV (r'.take m)) (by
                rw [← hcut2]
                exact el_sl (ev_var rfl) (eo_some (ev_is (ev_i (ev_var rfl) ev_c) rfl)) (eo_some (ev_is (ev_i (ev_i (ev_var rfl) ev_c) (ev_var rfl)) rfl)) hcp11) fun lp H12 nlp e12 hlp => ?_
              refine s_asg (v := .int ((at_ + 1 + n + 1 + m : Nat) : Int)) (ev_is (ev_i (ev_i (ev_var rfl) ev_c) (ev_var rfl)) rfl) fun H13 e13 => ⟨at_ + 1 + n + 1 + m, lp, r'.take m, some (.int (m : Int)), rfl, ((e10.trans e11).trans e12).trans e13, e13 _ _ hlp, by omega, by omega, ?_, by rw [if_pos hk1], fun z => by omega⟩
              rw [← hr'd, List.drop_drop]
          · have hk0 : ¬ kk = 1 := of_decide_eq_false hb
            rcases hcase with ⟨h0, rfl, rfl⟩ | ⟨h1, _⟩
            · refine ⟨at_ + 1 + n, lp0, [], o7, rfl, e10, e10 _ _ hlp0, by omega, by omega, ?_, by rw [if_neg hk0], fun _ => rfl⟩
              rw [List.drop_drop]
            · exact absurd h1 hk0
        obtain ⟨a2, lp, X, o7', rfl, e910, hlp, ha2, ha2l, hdt, hc, hX⟩ := hM
        have e410 := e49.trans e910
        have hB10 := hB.ex e410
        have hcp10 := ex_l e910 hcp9
        have htd10 := e410 _ _ htd'
        have hwp10 := e910 _ _ hwp9
        have hCn := hC
        -- the answer
        refine q_cut (M := fun σ2 H2 => ∃ (u2 : Nat) (pA : Addr), σ2 = [some (.ref cp), some (.ref b), some (.ref td), some (.int (a2 : Nat)), some (.int p), some (.ref wp), some (.ref lp), o7', some (.ref pA)] ∧ u2 + cs'.length ≤ 100 ∧ SqL K H2 cp (zV l) ∧ H2 td = some (.lst (zV done)) ∧ H2 pA = some (.lst (zV ans)) ∧ pA ≠ td ∧ BenchAt (T.off td) H2 b bx o' ∧ GoodO u2 o') ?_ fun σ2 H20 hM => ?_
        · refine s_if (b := decide (q = 0)) (et_is (et_test (ev_eqI (ev_var rfl) ev_c)) (by
            rw [pq]
            by_cases h : q = 0
            · rw [h]; rfl
            · rw [decide_eq_false h]
              have : ¬ ((q : Nat) : Int) = 0 := by omega
              simpa using this)) (fun hb H11 e11 => ?_) (fun hb H11 e11 => ?_)
          · have hq := of_decide_eq_true hb
            subst hq
            have hk : kk = 1 := by
              have := vint (a := 1) hC.rk
              omega
            have pz : p = 0 := pq
            rw [if_pos hk, pz] at hc
            rw [hc] at hasc hstep
            obtain ⟨hw0, hX4, hXn, hco⟩ := asked_read hasc
            have hst : Mu07Neutral.step o (((0 : Int) :: (l.drop (at_ + 1)).take n) :: [X]) = step o (.read (nats X)) := by
              unfold Mu07Neutral.step
              rw [hco]
            rw [hst] at hstep
            obtain ⟨wk, hbi, _⟩ := (hB10.ex e11).ins
            refine s_asgC (sp := spReadE T) (ea_cons (ev_var rfl) (ea_cons (ev_var rfl) ea_nil)) fun H12 e12 => ⟨td, b, bx, lp, wk, nats X, zV done, o, rfl, e12 _ _ hbi, by rw [← hXn]; exact (e11.trans e12) _ _ hlp, by unfold nats; rw [List.length_map]; exact hX4, (e11.trans e12) _ _ htd10, fun pA H13 npA kl hpA hB13 hF => ?_⟩
            rw [hstep] at hpA hB13 hF
            have e1012 := e11.trans e12
            refine ⟨u, pA, rfl, by omega, kl.sq (ex_l e1012 hcp10), kl.l (e1012 _ _ htd10), hpA, fun z => ?_, hB13, fun s hs => ⟨(hF s hs).1, fun i => by rw [(hF s hs).2 i]; exact Nat.zero_le _⟩⟩
            rw [z, e1012 _ _ htd10] at npA
            cases npA
          · have hq : 1 ≤ q := by
              have := of_decide_eq_false hb
              omega
            rw [hc] at hasc hstep
            obtain ⟨c0, hco, hci, hXn⟩ := asked_other hC hq hX hasc
            have hst : Mu07Neutral.step o ((p :: (l.drop (at_ + 1)).take n) :: (if kk = 1 then [X] else [])) = step o c0 := by
              unfold Mu07Neutral.step
              rw [hco]
            rw [hst] at hstep
            have hB11 := hB10.ex e11
            obtain ⟨wk, hbi, hwk⟩ := hB11.ins
            refine s_if (b := o.isNone) (et_test (ev_is (ev_op (ev_fld (ev_var rfl) (T.fd_bench_works hbi)) ev_c rv_isN) (congrArg V.bl hwk))) (fun hb2 H12 e12 => ?_) (fun hb2 H12 e12 => ?_)
            · have ho : o = none := by simpa using hb2
              subst ho
              have hs9 : step none c0 = (none, [-9]) := step_none hci
              rw [hs9] at hstep
              cases hstep
              refine s_asgL (xs := [V.int (-9)]) (el_lst (ea_cons (ev_neg ev_c) ea_nil) (Nat.le_of_ble_eq_true rfl)) fun pA H13 npA e13 hpA => ?_
              have e1012 := e11.trans e12
              refine ⟨u, pA, rfl, by omega, ex_l (e1012.trans e13) hcp10, (e1012.trans e13) _ _ htd10, hpA, fun z => ?_, hB11.ex (e12.trans e13), fun s hs => by cases hs⟩
              rw [z, e1012 _ _ htd10] at npA
              cases npA
            · obtain ⟨st, hst2⟩ : ∃ st, o = some st := by
                cases o with
                | none => cases hb2
                | some st => exact ⟨st, rfl⟩
              subst hst2
              obtain ⟨Gs, Bs⟩ := hG st rfl
              have hB12 := hB11.ex e12
              obtain ⟨L, hbL, hWL, htdo⟩ := hB12
              obtain ⟨s', a', hs', Gs', Bs'⟩ := step_good Gs Bs hci
              rw [hs'] at hstep
              cases hstep
              have e1012 := e11.trans e12
              have hSm : SetSm st := fun i => Nat.le_trans (Bs i) (by omega)
              refine s_asgC (sp := spWAE T) (ea_cons (ev_fld (ev_var rfl) (T.fd_bench_works hbL)) (ea_cons (ev_var rfl) (ea_cons (ev_var rfl) (ea_cons (ev_var rfl) ea_nil)))) fun H13 e13 => ⟨td, L, st, wp, lp, q, (l.drop (at_ + 1)).take n, nats X, c0, by rw [pq]; rfl, ⟨hWL.ex e13, Gs, hSm⟩, (e1012.trans e13) _ _ hwp10, by rw [← hXn]; exact (e1012.trans e13) _ _ hlp, hci, ?_⟩
              rw [hs']
              refine fun pA H14 npA kp hpA hA14 => ?_
              have e1013 := e1012.trans e13
              have kl := KLst.chg (hWL.ex e13) kp
              refine ⟨u + 1, pA, rfl, hu', kl.sq (ex_l e1013 hcp10), kl.l (e1013 _ _ htd10), hpA, fun z => ?_, ⟨L, kp b _ (e13 _ _ hbL) fun m => ?_, hA14, htdo⟩, fun s2 hs2 => ?_⟩
              · rw [z, e1013 _ _ htd10] at npA
                cases npA
              · obtain ⟨C, dx, fs, e', hne⟩ := (hWL.ex e13).chg_ins m
                rw [e13 _ _ hbL] at e'
                have e' := Option.some.inj e'
                injection e' with _ _ e'
                exact hne (by rw [← e']; exact benchF_keys)
              · cases hs2
                exact ⟨Gs', fun i => by have := Bs' i; omega⟩
        obtain ⟨u2, pA, rfl, hu2, hcp20, htd20, hpA20, hne, hB20, hG2⟩ := hM
        have hsz : sizeLine = 16777216 := rfl
        have dl : done.length + (ans.length + 1) ≤ 10000000 := by
          have := hshort
          rw [hAA', List.length_append, List.length_append, List.length_cons] at this
          omega
        have zl : ∀ z : List Int, (zV z).length = z.length := fun z => List.length_map _
        refine q_appBig (v := .int (ans.length : Nat)) htd20 (ev_var rfl) (ev_is (ev_len (ev_var rfl) (SqL.of hpA20)) (by rw [zl])) (by rw [zl]; omega) fun H21 e21 => ?_
        have x1 := ExB.upd td H21 (.lst (zV done ++ [V.int (ans.length : Nat)]))
        have hB21 := (hB20.ex e21).offTd (e21 _ _ htd20) x1
        have hpA21 := x1 _ _ hne (e21 _ _ hpA20)
        have hcp21 : SqL K (upd H21 td (.lst (zV done ++ [V.int (ans.length : Nat)]))) cp (zV l) := sq_off (ex_l e21 hcp20) (cp_off hcp e1 ntd) x1
        refine s_extBig upd_same hpA21 (ev_var rfl) (ev_var rfl) (by rw [List.length_append, zl, zl]; show done.length + 1 + ans.length ≤ sizeLine; omega) fun H22 e22 => ?_
        have x2 := ExB.upd td H22 (.lst ((zV done ++ [V.int (ans.length : Nat)]) ++ zV ans))
        refine ⟨a2, u2, _, _, _, _, _, rfl, ha2, ha2l, hdt, hu2, sq_off (ex_l e22 hcp21) (cp_off hcp e1 ntd) x2, ?_, (hB21.ex e22).offTd (e22 _ _ upd_same) x2, hG2⟩
        rw [upd_same]
        unfold zV
        rw [List.map_append, List.map_cons, List.append_assoc]
        rfl
    · have hge := of_decide_eq_false hb
      have : at_ = l.length := by omega
      subst this
      rw [List.drop_length] at hcalls
      have := calls_nil hcalls
      subst this
      have hAA : AA = done := by
        rw [hAA]
        show done ++ [] = done
        exact List.append_nil _
      refine s_ret (ev_var rfl) fun H5 e5 => k td H5 ?_
      rw [hAA]
      exact (e4.trans e5) _ _ htd'
end
end Cw

/-! The end: what the top has written of the text. -/
namespace Cw
open PySem PySem.Spec PyProof.Rows L2 Evl
def isNon : Value → Bool
  | .none => true
  | _ => false
/-- the def at p is an own def without defaults -/
def funB (K : PySem.W.Frag) (p : Str × Option Str) (qual : Str) : Bool := PySem.W.keepIn K (.ref (He.fAd K p)) && (match K.lookup (He.fAd K p) with
  | some ⟨_, _, .func fd, _⟩ => PySem.W.codeIn K fd.code qual && isNon fd.defaults
  | _ => false)
def fnV (x qual : Str) (st : Stmt) : He.FnW := some (x, qual, defArgs st, .stmts (defBody st), defScope st, mainGlobals, [], builtinsNs)
theorem fun_of {K : PySem.W.Frag} {p : Str × Option Str} {x qual : Str} {st : Stmt} (e : He.fnW K p = fnV x qual st) (c : funB K p qual = true) : ∃ fd, Fun K x qual st (He.fAd K p) fd := by
  obtain ⟨kp, c2⟩ := He.ba c
  unfold He.fnW at e
  cases q : K.lookup (He.fAd K p) with
  | none =>
    rw [q] at c2
    cases c2
  | some o =>
    obtain ⟨oc, od, dt, osl⟩ := o
    rw [q] at c2 e
    cases dt with
    | func fd =>
      obtain ⟨n1, n2, n3, n4, n5, n6, n7, n8, n9, n10, n11, n12, n13, n14, n15⟩ := fd
      have e2 : (some (n1, n2, n3, n4, n5, n6, n7, n15) : He.FnW) = some (x, qual, defArgs st, .stmts (defBody st), defScope st, mainGlobals, [], builtinsNs) := e
      simp only [Option.some.injEq, Prod.mk.injEq] at e2
      obtain ⟨h1, h2, h3, h4, h5, h6, h7, h8⟩ := e2
      subst h1 h2 h3 h4 h5 h6 h7 h8
      have c3 : (PySem.W.codeIn K n13 n2 && isNon n8) = true := c2
      obtain ⟨k1, k2⟩ := He.ba c3
      have h8 : n8 = .none := by
        cases n8 <;> first | rfl | (cases k2; done)
      subst h8
      exact ⟨_, ⟨oc, od, n9, n10, n11, n12, n13, n14, osl, rfl, q, k1⟩, kp⟩
    | _ => cases c2
section
variable {K : PySem.W.Frag} {h : Heap} {mg : Str → Option Value}
noncomputable def fxMk {x : Str} {st : Stmt} {ps : List Str} (X : K.In h) (G : h.Ns mainGlobals mg) (e : He.fnW K (x, none) = fnV x x st) (c : funB K (x, none) x = true) (g : (He.Fa.glo x).ok K = true)
    (hb : ∀ (kV doc pm : Value) (an : Option Addr) (cdv ct : Value) (us : List Value), us.length = ps.length → bindArgs (PySem.W.fnOf x x (defArgs st) (defBody st) (defScope st) .none kV doc pm an cdv ct) ⟨us, []⟩ = pure (ps.zip us)) : Fx K mg x st ps :=
  ⟨He.fAd K (x, none), (fun_of e c).choose, (fun_of e c).choose_spec, He.glo_ok X G g, (fun_of e c).choose_spec.binds hb⟩
noncomputable def clxMk {x q : Str} {st : Stmt} {ps attrs : List Str} (X : K.In h) (G : h.Ns mainGlobals mg) (e : He.fnW K (x, some "__init__") = fnV "__init__" q st) (c : funB K (x, some "__init__") q = true) (g : (He.Fa.glo x).ok K = true) (cl : (He.Fa.cls x).ok K = true) (mk : (He.Fa.mkr x).ok K = true)
    (na : (attrs.all fun a => (He.Fa.noat x a).ok K) = true)
    (hb : ∀ (kV doc pm : Value) (an : Option Addr) (cdv ct : Value) (us : List Value), us.length = ps.length → bindArgs (PySem.W.fnOf "__init__" q (defArgs st) (defBody st) (defScope st) .none kV doc pm an cdv ct) ⟨us, []⟩ = pure (ps.zip us)) : Clx K mg x q st ps attrs :=
  ⟨He.ga K x, He.fAd K (x, some "__init__"), (fun_of e c).choose, He.glo_ok X G g, He.cls_ok cl, fun a ha => He.noat_ok (List.all_eq_true.mp na a ha), (fun_of e c).choose_spec, He.mkr_ok mk, (fun_of e c).choose_spec.binds hb⟩
end
def fnsOf (K : PySem.W.Frag) : List He.FnW := [He.fnW K ("is_cam_leap", none), He.fnW K ("is_true_leap", none), He.fnW K ("is_leap", none), He.fnW K ("month_days", none), He.fnW K ("year_days", none), He.fnW K ("day_of_year", none), He.fnW K ("date_of", none), He.fnW K ("days_on", none), He.fnW K ("common_divisor", none), He.fnW K ("lowest", none), He.fnW K ("drive_row", none), He.fnW K ("mesh_row", none), He.fnW K ("shortened", none), He.fnW K ("without", none), He.fnW K ("row_with", none), He.fnW K ("reduced", none), He.fnW K ("columns_used", none), He.fnW K ("are_locked", none), He.fnW K ("rate_in", none), He.fnW K ("set_rates", none), He.fnW K ("rate_of", none), He.fnW K ("towards_zero", none), He.fnW K ("turned", none), He.fnW K ("whole_turns", none), He.fnW K ("shows", none), He.fnW K ("struck_by", none), He.fnW K ("turns_forward", none), He.fnW K ("first_second", none), He.fnW K ("lettings", none), He.fnW K ("letting_seconds", none), He.fnW K ("strike", none), He.fnW K ("next_whole", none), He.fnW K ("find", none), He.fnW K ("find_mover", none), He.fnW K ("is_taken", none), He.fnW K ("rate", none), He.fnW K ("go", none), He.fnW K ("show", none), He.fnW K ("turn", none), He.fnW K ("lift", none), He.fnW K ("lifts_needed", none), He.fnW K ("astray", none), He.fnW K ("is_on_star", none), He.fnW K ("meets", none), He.fnW K ("when", none), He.fnW K ("date", none), He.fnW K ("days", none), He.fnW K ("signs", none), He.fnW K ("split_at", none), He.fnW K ("line_words", none), He.fnW K ("is_small_letter", none), He.fnW K ("is_digit", none), He.fnW K ("is_name", none), He.fnW K ("is_number", none), He.fnW K ("number_of", none), He.fnW K ("words_can_be", none), He.fnW K ("is_kept", none), He.fnW K ("form_holds", none), He.fnW K ("new_name_fault", none), He.fnW K ("read_arbor", none), He.fnW K ("read_drive", none), He.fnW K ("read_wheel", none), He.fnW K ("read_mesh", none), He.fnW K ("read_jump", none), He.fnW K ("read_hand", none), He.fnW K ("read_count", none), He.fnW K ("read_rack", none), He.fnW K ("read_calendar", none), He.fnW K ("read_words", none), He.fnW K ("read_text", none), He.fnW K ("read", none), He.fnW K ("works_answer", none), He.fnW K ("answers", none), He.fnW K ("Mover", some "__init__"), He.fnW K ("Wheel", some "__init__"), He.fnW K ("Mesh", some "__init__"), He.fnW K ("Hand", some "__init__"), He.fnW K ("Striker", some "__init__"), He.fnW K ("Calendar", some "__init__"), He.fnW K ("Works", some "__init__"), He.fnW K ("Bench", some "__init__")]
def fnsV : List He.FnW := [fnV "is_cam_leap" "is_cam_leap" tx_is_cam_leap, fnV "is_true_leap" "is_true_leap" tx_is_true_leap, fnV "is_leap" "is_leap" tx_is_leap, fnV "month_days" "month_days" tx_month_days, fnV "year_days" "year_days" tx_year_days, fnV "day_of_year" "day_of_year" tx_day_of_year, fnV "date_of" "date_of" tx_date_of, fnV "days_on" "days_on" tx_days_on, fnV "common_divisor" "common_divisor" tx_common_divisor, fnV "lowest" "lowest" tx_lowest, fnV "drive_row" "drive_row" tx_drive_row, fnV "mesh_row" "mesh_row" tx_mesh_row, fnV "shortened" "shortened" tx_shortened, fnV "without" "without" tx_without, fnV "row_with" "row_with" tx_row_with, fnV "reduced" "reduced" tx_reduced, fnV "columns_used" "columns_used" tx_columns_used, fnV "are_locked" "are_locked" tx_are_locked, fnV "rate_in" "rate_in" tx_rate_in, fnV "set_rates" "set_rates" tx_set_rates, fnV "rate_of" "rate_of" tx_rate_of, fnV "towards_zero" "towards_zero" tx_towards_zero, fnV "turned" "turned" tx_turned, fnV "whole_turns" "whole_turns" tx_whole_turns, fnV "shows" "shows" tx_shows, fnV "struck_by" "struck_by" tx_struck_by, fnV "turns_forward" "turns_forward" tx_turns_forward, fnV "first_second" "first_second" tx_first_second, fnV "lettings" "lettings" tx_lettings, fnV "letting_seconds" "letting_seconds" tx_letting_seconds, fnV "strike" "strike" tx_strike, fnV "next_whole" "next_whole" tx_next_whole, fnV "find" "find" tx_find, fnV "find_mover" "find_mover" tx_find_mover, fnV "is_taken" "is_taken" tx_is_taken, fnV "rate" "rate" tx_rate, fnV "go" "go" tx_go, fnV "show" "show" tx_show, fnV "turn" "turn" tx_turn, fnV "lift" "lift" tx_lift, fnV "lifts_needed" "lifts_needed" tx_lifts_needed, fnV "astray" "astray" tx_astray, fnV "is_on_star" "is_on_star" tx_is_on_star, fnV "meets" "meets" tx_meets, fnV "when" "when" tx_when, fnV "date" "date" tx_date, fnV "days" "days" tx_days, fnV "signs" "signs" tx_signs, fnV "split_at" "split_at" tx_split_at, fnV "line_words" "line_words" tx_line_words, fnV "is_small_letter" "is_small_letter" tx_is_small_letter, fnV "is_digit" "is_digit" tx_is_digit, fnV "is_name" "is_name" tx_is_name, fnV "is_number" "is_number" tx_is_number, fnV "number_of" "number_of" tx_number_of, fnV "words_can_be" "words_can_be" tx_words_can_be, fnV "is_kept" "is_kept" tx_is_kept, fnV "form_holds" "form_holds" tx_form_holds, fnV "new_name_fault" "new_name_fault" tx_new_name_fault, fnV "read_arbor" "read_arbor" tx_read_arbor, fnV "read_drive" "read_drive" tx_read_drive, fnV "read_wheel" "read_wheel" tx_read_wheel, fnV "read_mesh" "read_mesh" tx_read_mesh, fnV "read_jump" "read_jump" tx_read_jump, fnV "read_hand" "read_hand" tx_read_hand, fnV "read_count" "read_count" tx_read_count, fnV "read_rack" "read_rack" tx_read_rack, fnV "read_calendar" "read_calendar" tx_read_calendar, fnV "read_words" "read_words" tx_read_words, fnV "read_text" "read_text" tx_read_text, fnV "read" "read" tx_read, fnV "works_answer" "works_answer" tx_works_answer, fnV "answers" "answers" tx_answers, fnV "__init__" "Mover.__init__" tx_Mover_init, fnV "__init__" "Wheel.__init__" tx_Wheel_init, fnV "__init__" "Mesh.__init__" tx_Mesh_init, fnV "__init__" "Hand.__init__" tx_Hand_init, fnV "__init__" "Striker.__init__" tx_Striker_init, fnV "__init__" "Calendar.__init__" tx_Calendar_init, fnV "__init__" "Works.__init__" tx_Works_init, fnV "__init__" "Bench.__init__" tx_Bench_init]
def monthsD : List He.Dv := [.int 31, .int 28, .int 31, .int 30, .int 31, .int 30, .int 31, .int 31, .int 30, .int 31, .int 30, .int 31]
def wholeD : List He.Dv := [.int 0, .int 0, .int 1, .int 0, .int 2, .int 1, .int 2, .int 2, .int 2, .int 1, .int 2]
def rowsD : List He.Dv := [.int 1, .int 1, .int 0, .int 0, .int 0, .int 0, .int 0, .int 0, .int 0, .int 0, .int 0]
def factsB (K : PySem.W.Frag) : List Bool := [funB K ("is_cam_leap", none) "is_cam_leap", funB K ("is_true_leap", none) "is_true_leap", funB K ("is_leap", none) "is_leap", funB K ("month_days", none) "month_days", funB K ("year_days", none) "year_days", funB K ("day_of_year", none) "day_of_year", funB K ("date_of", none) "date_of", funB K ("days_on", none) "days_on", funB K ("common_divisor", none) "common_divisor", funB K ("lowest", none) "lowest", funB K ("drive_row", none) "drive_row", funB K ("mesh_row", none) "mesh_row", funB K ("shortened", none) "shortened", funB K ("without", none) "without", funB K ("row_with", none) "row_with", funB K ("reduced", none) "reduced", funB K ("columns_used", none) "columns_used", funB K ("are_locked", none) "are_locked", funB K ("rate_in", none) "rate_in", funB K ("set_rates", none) "set_rates", funB K ("rate_of", none) "rate_of", funB K ("towards_zero", none) "towards_zero", funB K ("turned", none) "turned", funB K ("whole_turns", none) "whole_turns", funB K ("shows", none) "shows", funB K ("struck_by", none) "struck_by", funB K ("turns_forward", none) "turns_forward", funB K ("first_second", none) "first_second", funB K ("lettings", none) "lettings", funB K ("letting_seconds", none) "letting_seconds", funB K ("strike", none) "strike", funB K ("next_whole", none) "next_whole", funB K ("find", none) "find", funB K ("find_mover", none) "find_mover", funB K ("is_taken", none) "is_taken", funB K ("rate", none) "rate", funB K ("go", none) "go", funB K ("show", none) "show", funB K ("turn", none) "turn", funB K ("lift", none) "lift", funB K ("lifts_needed", none) "lifts_needed", funB K ("astray", none) "astray", funB K ("is_on_star", none) "is_on_star", funB K ("meets", none) "meets", funB K ("when", none) "when", funB K ("date", none) "date", funB K ("days", none) "days", funB K ("signs", none) "signs", funB K ("split_at", none) "split_at", funB K ("line_words", none) "line_words", funB K ("is_small_letter", none) "is_small_letter", funB K ("is_digit", none) "is_digit", funB K ("is_name", none) "is_name", funB K ("is_number", none) "is_number", funB K ("number_of", none) "number_of", funB K ("words_can_be", none) "words_can_be", funB K ("is_kept", none) "is_kept", funB K ("form_holds", none) "form_holds", funB K ("new_name_fault", none) "new_name_fault", funB K ("read_arbor", none) "read_arbor", funB K ("read_drive", none) "read_drive", funB K ("read_wheel", none) "read_wheel", funB K ("read_mesh", none) "read_mesh", funB K ("read_jump", none) "read_jump", funB K ("read_hand", none) "read_hand", funB K ("read_count", none) "read_count", funB K ("read_rack", none) "read_rack", funB K ("read_calendar", none) "read_calendar", funB K ("read_words", none) "read_words", funB K ("read_text", none) "read_text", funB K ("read", none) "read", funB K ("works_answer", none) "works_answer", funB K ("answers", none) "answers", (He.Fa.glo "is_cam_leap").ok K, (He.Fa.glo "is_true_leap").ok K, (He.Fa.glo "is_leap").ok K, (He.Fa.glo "month_days").ok K, (He.Fa.glo "year_days").ok K, (He.Fa.glo "day_of_year").ok K, (He.Fa.glo "date_of").ok K, (He.Fa.glo "days_on").ok K, (He.Fa.glo "common_divisor").ok K, (He.Fa.glo "lowest").ok K, (He.Fa.glo "drive_row").ok K, (He.Fa.glo "mesh_row").ok K, (He.Fa.glo "shortened").ok K, (He.Fa.glo "without").ok K, (He.Fa.glo "row_with").ok K, (He.Fa.glo "reduced").ok K, (He.Fa.glo "columns_used").ok K, (He.Fa.glo "are_locked").ok K, (He.Fa.glo "rate_in").ok K, (He.Fa.glo "set_rates").ok K, (He.Fa.glo "rate_of").ok K, (He.Fa.glo "towards_zero").ok K, (He.Fa.glo "turned").ok K, (He.Fa.glo "whole_turns").ok K, (He.Fa.glo "shows").ok K, (He.Fa.glo "struck_by").ok K, (He.Fa.glo "turns_forward").ok K, (He.Fa.glo "first_second").ok K, (He.Fa.glo "lettings").ok K, (He.Fa.glo "letting_seconds").ok K, (He.Fa.glo "strike").ok K, (He.Fa.glo "next_whole").ok K, (He.Fa.glo "find").ok K, (He.Fa.glo "find_mover").ok K, (He.Fa.glo "is_taken").ok K, (He.Fa.glo "rate").ok K, (He.Fa.glo "go").ok K, (He.Fa.glo "show").ok K, (He.Fa.glo "turn").ok K, (He.Fa.glo "lift").ok K, (He.Fa.glo "lifts_needed").ok K, (He.Fa.glo "astray").ok K, (He.Fa.glo "is_on_star").ok K, (He.Fa.glo "meets").ok K, (He.Fa.glo "when").ok K, (He.Fa.glo "date").ok K, (He.Fa.glo "days").ok K, (He.Fa.glo "signs").ok K, (He.Fa.glo "split_at").ok K, (He.Fa.glo "line_words").ok K, (He.Fa.glo "is_small_letter").ok K, (He.Fa.glo "is_digit").ok K, (He.Fa.glo "is_name").ok K, (He.Fa.glo "is_number").ok K, (He.Fa.glo "number_of").ok K, (He.Fa.glo "words_can_be").ok K, (He.Fa.glo "is_kept").ok K, (He.Fa.glo "form_holds").ok K, (He.Fa.glo "new_name_fault").ok K, (He.Fa.glo "read_arbor").ok K, (He.Fa.glo "read_drive").ok K, (He.Fa.glo "read_wheel").ok K, (He.Fa.glo "read_mesh").ok K, (He.Fa.glo "read_jump").ok K, (He.Fa.glo "read_hand").ok K, (He.Fa.glo "read_count").ok K, (He.Fa.glo "read_rack").ok K, (He.Fa.glo "read_calendar").ok K, (He.Fa.glo "read_words").ok K, (He.Fa.glo "read_text").ok K, (He.Fa.glo "read").ok K, (He.Fa.glo "works_answer").ok K, (He.Fa.glo "answers").ok K, funB K ("Mover", some "__init__") "Mover.__init__", funB K ("Wheel", some "__init__") "Wheel.__init__", funB K ("Mesh", some "__init__") "Mesh.__init__", funB K ("Hand", some "__init__") "Hand.__init__", funB K ("Striker", some "__init__") "Striker.__init__", funB K ("Calendar", some "__init__") "Calendar.__init__", funB K ("Works", some "__init__") "Works.__init__", funB K ("Bench", some "__init__") "Bench.__init__", (He.Fa.glo "Mover").ok K, (He.Fa.glo "Wheel").ok K, (He.Fa.glo "Mesh").ok K, (He.Fa.glo "Hand").ok K, (He.Fa.glo "Striker").ok K, (He.Fa.glo "Calendar").ok K, (He.Fa.glo "Works").ok K, (He.Fa.glo "Bench").ok K, (He.Fa.cls "Mover").ok K, (He.Fa.cls "Wheel").ok K, (He.Fa.cls "Mesh").ok K, (He.Fa.cls "Hand").ok K, (He.Fa.cls "Striker").ok K, (He.Fa.cls "Calendar").ok K, (He.Fa.cls "Works").ok K, (He.Fa.cls "Bench").ok K, (He.Fa.mkr "Mover").ok K, (He.Fa.mkr "Wheel").ok K, (He.Fa.mkr "Mesh").ok K, (He.Fa.mkr "Hand").ok K, (He.Fa.mkr "Striker").ok K, (He.Fa.mkr "Calendar").ok K, (He.Fa.mkr "Works").ok K, (He.Fa.mkr "Bench").ok K, (["name", "place", "source", "steps", "above", "below"]).all fun a => (He.Fa.noat "Mover" a).ok K, (["name", "arbor", "teeth"]).all fun a => (He.Fa.noat "Wheel" a).ok K, (["first", "second", "inside", "carrier"]).all fun a => (He.Fa.noat "Mesh" a).ok K, (["name", "mover", "marks", "offset"]).all fun a => (He.Fa.noat "Hand" a).ok K, (["name", "mover", "numbers", "hand", "place"]).all fun a => (He.Fa.noat "Striker" a).ok K, (["name", "mover", "year", "month", "day", "offset"]).all fun a => (He.Fa.noat "Calendar" a).ok K, (["arbors", "wheels", "meshes", "stars", "hands", "strikers", "calendars", "driver", "seconds", "now"]).all fun a => (He.Fa.noat "Works" a).ok K, (["works"]).all fun a => (He.Fa.noat "Bench" a).ok K, (He.Fa.glo "MONTHS").ok K, (He.Fa.glo "WHOLE_NUMBERS").ok K, (He.Fa.glo "ROWS").ok K, (He.Fa.free "len").ok K, (He.Fa.free "abs").ok K, (He.Fa.free "max").ok K, (He.Fa.free "sorted").ok K, (He.Fa.free "list").ok K, (He.Fa.free "range").ok K, (He.Fa.free "ord").ok K, He.tupB K "MONTHS" monthsD, He.tupB K "WHOLE_NUMBERS" wholeD, He.tupB K "ROWS" rowsD]
theorem nth_eq {α : Type} {l m : List α} (h : l = m) {i : Nat} {a b : α} (ha : l[i]? = some a) (hb : m[i]? = some b) : a = b := by
  rw [h, hb] at ha
  exact (Option.some.inj ha).symm
theorem nth_true {l : List Bool} (h : l.all id = true) {i : Nat} {a : Bool} (ha : l[i]? = some a) : a = true := List.all_eq_true.mp h a (List.mem_of_getElem? ha)
section
variable {K : PySem.W.Frag} {h : Heap} {mg : Str → Option Value}
noncomputable def mk_TDates (X : K.In h) (G : h.Ns mainGlobals mg) (e : fnsOf K = fnsV) (c : (factsB K).all id = true) : TDates K mg where
  td := 0
  is_cam_leap := fxMk X G (nth_eq e (i := 0) rfl rfl) (nth_true c (i := 0) rfl) (nth_true c (i := 73) rfl) (fun _ _ _ _ _ _ us hl => match us, hl with | [_], _ => rfl)
  is_true_leap := fxMk X G (nth_eq e (i := 1) rfl rfl) (nth_true c (i := 1) rfl) (nth_true c (i := 74) rfl) (fun _ _ _ _ _ _ us hl => match us, hl with | [_], _ => rfl)
  is_leap := fxMk X G (nth_eq e (i := 2) rfl rfl) (nth_true c (i := 2) rfl) (nth_true c (i := 75) rfl) (fun _ _ _ _ _ _ us hl => match us, hl with | [_, _], _ => rfl)
  month_days := fxMk X G (nth_eq e (i := 3) rfl rfl) (nth_true c (i := 3) rfl) (nth_true c (i := 76) rfl) (fun _ _ _ _ _ _ us hl => match us, hl with | [_, _, _], _ => rfl)
  year_days := fxMk X G (nth_eq e (i := 4) rfl rfl) (nth_true c (i := 4) rfl) (nth_true c (i := 77) rfl) (fun _ _ _ _ _ _ us hl => match us, hl with | [_, _], _ => rfl)
  day_of_year := fxMk X G (nth_eq e (i := 5) rfl rfl) (nth_true c (i := 5) rfl) (nth_true c (i := 78) rfl) (fun _ _ _ _ _ _ us hl => match us, hl with | [_, _, _, _], _ => rfl)
  date_of := fxMk X G (nth_eq e (i := 6) rfl rfl) (nth_true c (i := 6) rfl) (nth_true c (i := 79) rfl) (fun _ _ _ _ _ _ us hl => match us, hl with | [_, _, _], _ => rfl)
  days_on := fxMk X G (nth_eq e (i := 7) rfl rfl) (nth_true c (i := 7) rfl) (nth_true c (i := 80) rfl) (fun _ _ _ _ _ _ us hl => match us, hl with | [_, _, _], _ => rfl)
noncomputable def mk_TRates (X : K.In h) (G : h.Ns mainGlobals mg) (e : fnsOf K = fnsV) (c : (factsB K).all id = true) : TRates K mg where
  td := 0
  common_divisor := fxMk X G (nth_eq e (i := 8) rfl rfl) (nth_true c (i := 8) rfl) (nth_true c (i := 81) rfl) (fun _ _ _ _ _ _ us hl => match us, hl with | [_, _], _ => rfl)
  lowest := fxMk X G (nth_eq e (i := 9) rfl rfl) (nth_true c (i := 9) rfl) (nth_true c (i := 82) rfl) (fun _ _ _ _ _ _ us hl => match us, hl with | [_, _], _ => rfl)
  drive_row := fxMk X G (nth_eq e (i := 10) rfl rfl) (nth_true c (i := 10) rfl) (nth_true c (i := 83) rfl) (fun _ _ _ _ _ _ us hl => match us, hl with | [_], _ => rfl)
  mesh_row := fxMk X G (nth_eq e (i := 11) rfl rfl) (nth_true c (i := 11) rfl) (nth_true c (i := 84) rfl) (fun _ _ _ _ _ _ us hl => match us, hl with | [_, _], _ => rfl)
  shortened := fxMk X G (nth_eq e (i := 12) rfl rfl) (nth_true c (i := 12) rfl) (nth_true c (i := 85) rfl) (fun _ _ _ _ _ _ us hl => match us, hl with | [_], _ => rfl)
  without := fxMk X G (nth_eq e (i := 13) rfl rfl) (nth_true c (i := 13) rfl) (nth_true c (i := 86) rfl) (fun _ _ _ _ _ _ us hl => match us, hl with | [_, _, _], _ => rfl)
  row_with := fxMk X G (nth_eq e (i := 14) rfl rfl) (nth_true c (i := 14) rfl) (nth_true c (i := 87) rfl) (fun _ _ _ _ _ _ us hl => match us, hl with | [_, _, _], _ => rfl)
  reduced := fxMk X G (nth_eq e (i := 15) rfl rfl) (nth_true c (i := 15) rfl) (nth_true c (i := 88) rfl) (fun _ _ _ _ _ _ us hl => match us, hl with | [_, _], _ => rfl)
  columns_used := fxMk X G (nth_eq e (i := 16) rfl rfl) (nth_true c (i := 16) rfl) (nth_true c (i := 89) rfl) (fun _ _ _ _ _ _ us hl => match us, hl with | [_], _ => rfl)
  are_locked := fxMk X G (nth_eq e (i := 17) rfl rfl) (nth_true c (i := 17) rfl) (nth_true c (i := 90) rfl) (fun _ _ _ _ _ _ us hl => match us, hl with | [_], _ => rfl)
  rate_in := fxMk X G (nth_eq e (i := 18) rfl rfl) (nth_true c (i := 18) rfl) (nth_true c (i := 91) rfl) (fun _ _ _ _ _ _ us hl => match us, hl with | [_, _], _ => rfl)
  set_rates := fxMk X G (nth_eq e (i := 19) rfl rfl) (nth_true c (i := 19) rfl) (nth_true c (i := 92) rfl) (fun _ _ _ _ _ _ us hl => match us, hl with | [_], _ => rfl)
noncomputable def mk_TMotion (X : K.In h) (G : h.Ns mainGlobals mg) (e : fnsOf K = fnsV) (c : (factsB K).all id = true) : TMotion K mg where
  td := 0
  rate_of := fxMk X G (nth_eq e (i := 20) rfl rfl) (nth_true c (i := 20) rfl) (nth_true c (i := 93) rfl) (fun _ _ _ _ _ _ us hl => match us, hl with | [_], _ => rfl)
  towards_zero := fxMk X G (nth_eq e (i := 21) rfl rfl) (nth_true c (i := 21) rfl) (nth_true c (i := 94) rfl) (fun _ _ _ _ _ _ us hl => match us, hl with | [_, _], _ => rfl)
  turned := fxMk X G (nth_eq e (i := 22) rfl rfl) (nth_true c (i := 22) rfl) (nth_true c (i := 95) rfl) (fun _ _ _ _ _ _ us hl => match us, hl with | [_, _], _ => rfl)
  whole_turns := fxMk X G (nth_eq e (i := 23) rfl rfl) (nth_true c (i := 23) rfl) (nth_true c (i := 96) rfl) (fun _ _ _ _ _ _ us hl => match us, hl with | [_, _], _ => rfl)
  shows := fxMk X G (nth_eq e (i := 24) rfl rfl) (nth_true c (i := 24) rfl) (nth_true c (i := 97) rfl) (fun _ _ _ _ _ _ us hl => match us, hl with | [_, _], _ => rfl)
  struck_by := fxMk X G (nth_eq e (i := 25) rfl rfl) (nth_true c (i := 25) rfl) (nth_true c (i := 98) rfl) (fun _ _ _ _ _ _ us hl => match us, hl with | [_, _], _ => rfl)
  turns_forward := fxMk X G (nth_eq e (i := 26) rfl rfl) (nth_true c (i := 26) rfl) (nth_true c (i := 99) rfl) (fun _ _ _ _ _ _ us hl => match us, hl with | [_], _ => rfl)
  first_second := fxMk X G (nth_eq e (i := 27) rfl rfl) (nth_true c (i := 27) rfl) (nth_true c (i := 100) rfl) (fun _ _ _ _ _ _ us hl => match us, hl with | [_, _], _ => rfl)
  lettings := fxMk X G (nth_eq e (i := 28) rfl rfl) (nth_true c (i := 28) rfl) (nth_true c (i := 101) rfl) (fun _ _ _ _ _ _ us hl => match us, hl with | [_, _, _], _ => rfl)
  letting_seconds := fxMk X G (nth_eq e (i := 29) rfl rfl) (nth_true c (i := 29) rfl) (nth_true c (i := 102) rfl) (fun _ _ _ _ _ _ us hl => match us, hl with | [_, _, _], _ => rfl)
  strike := fxMk X G (nth_eq e (i := 30) rfl rfl) (nth_true c (i := 30) rfl) (nth_true c (i := 103) rfl) (fun _ _ _ _ _ _ us hl => match us, hl with | [_, _], _ => rfl)
  next_whole := fxMk X G (nth_eq e (i := 31) rfl rfl) (nth_true c (i := 31) rfl) (nth_true c (i := 104) rfl) (fun _ _ _ _ _ _ us hl => match us, hl with | [_, _, _], _ => rfl)
noncomputable def mk_TParts (X : K.In h) (G : h.Ns mainGlobals mg) (e : fnsOf K = fnsV) (c : (factsB K).all id = true) : TParts K mg where
  td := 0
  Mover := clxMk X G (nth_eq e (i := 73) rfl rfl) (nth_true c (i := 146) rfl) (nth_true c (i := 154) rfl) (nth_true c (i := 162) rfl) (nth_true c (i := 170) rfl) (nth_true c (i := 178) rfl) (fun _ _ _ _ _ _ us hl => match us, hl with | [_, _, _, _, _], _ => rfl)
  Wheel := clxMk X G (nth_eq e (i := 74) rfl rfl) (nth_true c (i := 147) rfl) (nth_true c (i := 155) rfl) (nth_true c (i := 163) rfl) (nth_true c (i := 171) rfl) (nth_true c (i := 179) rfl) (fun _ _ _ _ _ _ us hl => match us, hl with | [_, _, _, _], _ => rfl)
  Mesh := clxMk X G (nth_eq e (i := 75) rfl rfl) (nth_true c (i := 148) rfl) (nth_true c (i := 156) rfl) (nth_true c (i := 164) rfl) (nth_true c (i := 172) rfl) (nth_true c (i := 180) rfl) (fun _ _ _ _ _ _ us hl => match us, hl with | [_, _, _, _, _], _ => rfl)
  Hand := clxMk X G (nth_eq e (i := 76) rfl rfl) (nth_true c (i := 149) rfl) (nth_true c (i := 157) rfl) (nth_true c (i := 165) rfl) (nth_true c (i := 173) rfl) (nth_true c (i := 181) rfl) (fun _ _ _ _ _ _ us hl => match us, hl with | [_, _, _, _, _], _ => rfl)
  Striker := clxMk X G (nth_eq e (i := 77) rfl rfl) (nth_true c (i := 150) rfl) (nth_true c (i := 158) rfl) (nth_true c (i := 166) rfl) (nth_true c (i := 174) rfl) (nth_true c (i := 182) rfl) (fun _ _ _ _ _ _ us hl => match us, hl with | [_, _, _, _, _], _ => rfl)
  Calendar := clxMk X G (nth_eq e (i := 78) rfl rfl) (nth_true c (i := 151) rfl) (nth_true c (i := 159) rfl) (nth_true c (i := 167) rfl) (nth_true c (i := 175) rfl) (nth_true c (i := 183) rfl) (fun _ _ _ _ _ _ us hl => match us, hl with | [_, _, _, _, _, _], _ => rfl)
  Works := clxMk X G (nth_eq e (i := 79) rfl rfl) (nth_true c (i := 152) rfl) (nth_true c (i := 160) rfl) (nth_true c (i := 168) rfl) (nth_true c (i := 176) rfl) (nth_true c (i := 184) rfl) (fun _ _ _ _ _ _ us hl => match us, hl with | [_], _ => rfl)
  find := fxMk X G (nth_eq e (i := 32) rfl rfl) (nth_true c (i := 32) rfl) (nth_true c (i := 105) rfl) (fun _ _ _ _ _ _ us hl => match us, hl with | [_, _], _ => rfl)
  find_mover := fxMk X G (nth_eq e (i := 33) rfl rfl) (nth_true c (i := 33) rfl) (nth_true c (i := 106) rfl) (fun _ _ _ _ _ _ us hl => match us, hl with | [_, _], _ => rfl)
  is_taken := fxMk X G (nth_eq e (i := 34) rfl rfl) (nth_true c (i := 34) rfl) (nth_true c (i := 107) rfl) (fun _ _ _ _ _ _ us hl => match us, hl with | [_, _], _ => rfl)
noncomputable def mk_TCalls (X : K.In h) (G : h.Ns mainGlobals mg) (e : fnsOf K = fnsV) (c : (factsB K).all id = true) : TCalls K mg where
  td := 0
  rate := fxMk X G (nth_eq e (i := 35) rfl rfl) (nth_true c (i := 35) rfl) (nth_true c (i := 108) rfl) (fun _ _ _ _ _ _ us hl => match us, hl with | [_, _], _ => rfl)
  go := fxMk X G (nth_eq e (i := 36) rfl rfl) (nth_true c (i := 36) rfl) (nth_true c (i := 109) rfl) (fun _ _ _ _ _ _ us hl => match us, hl with | [_, _], _ => rfl)
  show_ := fxMk X G (nth_eq e (i := 37) rfl rfl) (nth_true c (i := 37) rfl) (nth_true c (i := 110) rfl) (fun _ _ _ _ _ _ us hl => match us, hl with | [_], _ => rfl)
  turn := fxMk X G (nth_eq e (i := 38) rfl rfl) (nth_true c (i := 38) rfl) (nth_true c (i := 111) rfl) (fun _ _ _ _ _ _ us hl => match us, hl with | [_, _, _], _ => rfl)
  lift := fxMk X G (nth_eq e (i := 39) rfl rfl) (nth_true c (i := 39) rfl) (nth_true c (i := 112) rfl) (fun _ _ _ _ _ _ us hl => match us, hl with | [_, _], _ => rfl)
  lifts_needed := fxMk X G (nth_eq e (i := 40) rfl rfl) (nth_true c (i := 40) rfl) (nth_true c (i := 113) rfl) (fun _ _ _ _ _ _ us hl => match us, hl with | [_, _], _ => rfl)
  astray := fxMk X G (nth_eq e (i := 41) rfl rfl) (nth_true c (i := 41) rfl) (nth_true c (i := 114) rfl) (fun _ _ _ _ _ _ us hl => match us, hl with | [_, _, _], _ => rfl)
  is_on_star := fxMk X G (nth_eq e (i := 42) rfl rfl) (nth_true c (i := 42) rfl) (nth_true c (i := 115) rfl) (fun _ _ _ _ _ _ us hl => match us, hl with | [_], _ => rfl)
  meets := fxMk X G (nth_eq e (i := 43) rfl rfl) (nth_true c (i := 43) rfl) (nth_true c (i := 116) rfl) (fun _ _ _ _ _ _ us hl => match us, hl with | [_, _, _], _ => rfl)
  when := fxMk X G (nth_eq e (i := 44) rfl rfl) (nth_true c (i := 44) rfl) (nth_true c (i := 117) rfl) (fun _ _ _ _ _ _ us hl => match us, hl with | [_, _, _], _ => rfl)
  date := fxMk X G (nth_eq e (i := 45) rfl rfl) (nth_true c (i := 45) rfl) (nth_true c (i := 118) rfl) (fun _ _ _ _ _ _ us hl => match us, hl with | [_, _], _ => rfl)
  days := fxMk X G (nth_eq e (i := 46) rfl rfl) (nth_true c (i := 46) rfl) (nth_true c (i := 119) rfl) (fun _ _ _ _ _ _ us hl => match us, hl with | [_, _, _], _ => rfl)
noncomputable def mk_TWords (X : K.In h) (G : h.Ns mainGlobals mg) (e : fnsOf K = fnsV) (c : (factsB K).all id = true) : TWords K mg where
  td := 0
  signs := fxMk X G (nth_eq e (i := 47) rfl rfl) (nth_true c (i := 47) rfl) (nth_true c (i := 120) rfl) (fun _ _ _ _ _ _ us hl => match us, hl with | [_], _ => rfl)
  split_at := fxMk X G (nth_eq e (i := 48) rfl rfl) (nth_true c (i := 48) rfl) (nth_true c (i := 121) rfl) (fun _ _ _ _ _ _ us hl => match us, hl with | [_, _], _ => rfl)
  line_words := fxMk X G (nth_eq e (i := 49) rfl rfl) (nth_true c (i := 49) rfl) (nth_true c (i := 122) rfl) (fun _ _ _ _ _ _ us hl => match us, hl with | [_], _ => rfl)
  is_small_letter := fxMk X G (nth_eq e (i := 50) rfl rfl) (nth_true c (i := 50) rfl) (nth_true c (i := 123) rfl) (fun _ _ _ _ _ _ us hl => match us, hl with | [_], _ => rfl)
  is_digit := fxMk X G (nth_eq e (i := 51) rfl rfl) (nth_true c (i := 51) rfl) (nth_true c (i := 124) rfl) (fun _ _ _ _ _ _ us hl => match us, hl with | [_], _ => rfl)
  is_name := fxMk X G (nth_eq e (i := 52) rfl rfl) (nth_true c (i := 52) rfl) (nth_true c (i := 125) rfl) (fun _ _ _ _ _ _ us hl => match us, hl with | [_], _ => rfl)
  is_number := fxMk X G (nth_eq e (i := 53) rfl rfl) (nth_true c (i := 53) rfl) (nth_true c (i := 126) rfl) (fun _ _ _ _ _ _ us hl => match us, hl with | [_], _ => rfl)
  number_of := fxMk X G (nth_eq e (i := 54) rfl rfl) (nth_true c (i := 54) rfl) (nth_true c (i := 127) rfl) (fun _ _ _ _ _ _ us hl => match us, hl with | [_], _ => rfl)
  words_can_be := fxMk X G (nth_eq e (i := 55) rfl rfl) (nth_true c (i := 55) rfl) (nth_true c (i := 128) rfl) (fun _ _ _ _ _ _ us hl => match us, hl with | [_], _ => rfl)
  is_kept := fxMk X G (nth_eq e (i := 56) rfl rfl) (nth_true c (i := 56) rfl) (nth_true c (i := 129) rfl) (fun _ _ _ _ _ _ us hl => match us, hl with | [_], _ => rfl)
  form_holds := fxMk X G (nth_eq e (i := 57) rfl rfl) (nth_true c (i := 57) rfl) (nth_true c (i := 130) rfl) (fun _ _ _ _ _ _ us hl => match us, hl with | [_, _], _ => rfl)
noncomputable def mk_TReading (X : K.In h) (G : h.Ns mainGlobals mg) (e : fnsOf K = fnsV) (c : (factsB K).all id = true) : TReading K mg where
  td := 0
  new_name_fault := fxMk X G (nth_eq e (i := 58) rfl rfl) (nth_true c (i := 58) rfl) (nth_true c (i := 131) rfl) (fun _ _ _ _ _ _ us hl => match us, hl with | [_, _, _, _, _], _ => rfl)
  read_arbor := fxMk X G (nth_eq e (i := 59) rfl rfl) (nth_true c (i := 59) rfl) (nth_true c (i := 132) rfl) (fun _ _ _ _ _ _ us hl => match us, hl with | [_, _], _ => rfl)
  read_drive := fxMk X G (nth_eq e (i := 60) rfl rfl) (nth_true c (i := 60) rfl) (nth_true c (i := 133) rfl) (fun _ _ _ _ _ _ us hl => match us, hl with | [_, _], _ => rfl)
  read_wheel := fxMk X G (nth_eq e (i := 61) rfl rfl) (nth_true c (i := 61) rfl) (nth_true c (i := 134) rfl) (fun _ _ _ _ _ _ us hl => match us, hl with | [_, _], _ => rfl)
  read_mesh := fxMk X G (nth_eq e (i := 62) rfl rfl) (nth_true c (i := 62) rfl) (nth_true c (i := 135) rfl) (fun _ _ _ _ _ _ us hl => match us, hl with | [_, _], _ => rfl)
  read_jump := fxMk X G (nth_eq e (i := 63) rfl rfl) (nth_true c (i := 63) rfl) (nth_true c (i := 136) rfl) (fun _ _ _ _ _ _ us hl => match us, hl with | [_, _], _ => rfl)
  read_hand := fxMk X G (nth_eq e (i := 64) rfl rfl) (nth_true c (i := 64) rfl) (nth_true c (i := 137) rfl) (fun _ _ _ _ _ _ us hl => match us, hl with | [_, _], _ => rfl)
  read_count := fxMk X G (nth_eq e (i := 65) rfl rfl) (nth_true c (i := 65) rfl) (nth_true c (i := 138) rfl) (fun _ _ _ _ _ _ us hl => match us, hl with | [_, _], _ => rfl)
  read_rack := fxMk X G (nth_eq e (i := 66) rfl rfl) (nth_true c (i := 66) rfl) (nth_true c (i := 139) rfl) (fun _ _ _ _ _ _ us hl => match us, hl with | [_, _], _ => rfl)
  read_calendar := fxMk X G (nth_eq e (i := 67) rfl rfl) (nth_true c (i := 67) rfl) (nth_true c (i := 140) rfl) (fun _ _ _ _ _ _ us hl => match us, hl with | [_, _], _ => rfl)
  read_words := fxMk X G (nth_eq e (i := 68) rfl rfl) (nth_true c (i := 68) rfl) (nth_true c (i := 141) rfl) (fun _ _ _ _ _ _ us hl => match us, hl with | [_, _], _ => rfl)
  read_text := fxMk X G (nth_eq e (i := 69) rfl rfl) (nth_true c (i := 69) rfl) (nth_true c (i := 142) rfl) (fun _ _ _ _ _ _ us hl => match us, hl with | [_, _], _ => rfl)
noncomputable def mk_TWorks (X : K.In h) (G : h.Ns mainGlobals mg) (e : fnsOf K = fnsV) (c : (factsB K).all id = true) : TWorks K mg where
  td := 0
  Bench := clxMk X G (nth_eq e (i := 80) rfl rfl) (nth_true c (i := 153) rfl) (nth_true c (i := 161) rfl) (nth_true c (i := 169) rfl) (nth_true c (i := 177) rfl) (nth_true c (i := 185) rfl) (fun _ _ _ _ _ _ us hl => match us, hl with | [_], _ => rfl)
  read := fxMk X G (nth_eq e (i := 70) rfl rfl) (nth_true c (i := 70) rfl) (nth_true c (i := 143) rfl) (fun _ _ _ _ _ _ us hl => match us, hl with | [_, _], _ => rfl)
  works_answer := fxMk X G (nth_eq e (i := 71) rfl rfl) (nth_true c (i := 71) rfl) (nth_true c (i := 144) rfl) (fun _ _ _ _ _ _ us hl => match us, hl with | [_, _, _, _], _ => rfl)
  answers := fxMk X G (nth_eq e (i := 72) rfl rfl) (nth_true c (i := 72) rfl) (nth_true c (i := 145) rfl) (fun _ _ _ _ _ _ us hl => match us, hl with | [_], _ => rfl)
noncomputable def mk_TGlob (X : K.In h) (G : h.Ns mainGlobals mg) (c : (factsB K).all id = true) : TGlob K mg where
  aM := He.ga K "MONTHS"
  aW := He.ga K "WHOLE_NUMBERS"
  aR := He.ga K "ROWS"
  g_MONTHS := He.glo_ok X G (nth_true c (i := 186) rfl)
  g_WHOLE_NUMBERS := He.glo_ok X G (nth_true c (i := 187) rfl)
  g_ROWS := He.glo_ok X G (nth_true c (i := 188) rfl)
  s_MONTHS := fun H => He.tupB_ok (vs := monthsD) (nth_true c (i := 196) rfl) H
  s_WHOLE_NUMBERS := fun H => He.tupB_ok (vs := wholeD) (nth_true c (i := 197) rfl) H
  s_ROWS := fun H => He.tupB_ok (vs := rowsD) (nth_true c (i := 198) rfl) H
  b_len := He.free_ok X G (nth_true c (i := 189) rfl)
  b_abs := He.free_ok X G (nth_true c (i := 190) rfl)
  b_max := He.free_ok X G (nth_true c (i := 191) rfl)
  b_sorted := He.free_ok X G (nth_true c (i := 192) rfl)
  b_list := He.free_ok X G (nth_true c (i := 193) rfl)
  b_range := He.free_ok X G (nth_true c (i := 194) rfl)
  b_ord := He.free_ok X G (nth_true c (i := 195) rfl)
noncomputable def mk_Txt (X : K.In h) (G : h.Ns mainGlobals mg) (e : fnsOf K = fnsV) (c : (factsB K).all id = true) : Txt K mg :=
  { mk_TDates X G e c, mk_TRates X G e c, mk_TMotion X G e c, mk_TParts X G e c, mk_TCalls X G e c, mk_TWords X G e c, mk_TReading X G e c, mk_TWorks X G e c, mk_TGlob X G c with }
theorem all_mk {P : Program} {w : World} {fa : Addr} (X : K.In h) (G : h.Ns mainGlobals mg) (hfa : mg "answers" = some (.ref fa)) (e : fnsOf K = fnsV) (c : (factsB K).all id = true) :
    ∃ fd : FuncData, (∀ (s : Shared) (us : List Value), us.length = (["calls"] : List Str).length → BindsTo s fd ⟨us, []⟩ ((["calls"] : List Str).zip us)) ∧ ∀ base : Heap, K.In base → base.Ns mainGlobals mg → FnOk P w K mg base CX0 22 fa fd ["calls"] (spAnswers K) := by
  have T : Txt K mg := mk_Txt X G e c
  have eq := hfa.symm.trans T.answers.g
  have eq : fa = T.answers.f := by
    injection eq with eq
    injection eq
  subst eq
  obtain ⟨oc, od, kV, doc, pm, an, cdv, ct, osl, hfd, _, _⟩ := T.answers.F.ex
  exact ⟨T.answers.fd, fun s us hu => by
    rw [hfd]
    exact match us, hu with | [_], _ => .of_eq rfl, fun base _ _ => ok_answers T⟩
end
end Cw

open PySem PySem.W PyProof.Rows
set_option maxHeartbeats 0 in
theorem PySem.Challenge.cw_clockworks_s01_answers_holds : PySem.Challenge.rw_clockworks_s01_answers.Holds := by
  w_on; k_headS; (case hw => exact ⟨[.list [.int 3]], by decide +kernel, by decide +kernel⟩)
  k_fillS
  refine L2.walk_specK (r := PySem.Challenge.rw_clockworks_s01_answers) (k := 22) (CX := L2.CX0) (ps := ["calls"]) (sp := Cw.spAnswers) (by decide +kernel) rfl rfl ⟨rfl, by decide, by decide⟩ (fun w h Y => PySem.W.kIn_of Y) ?F ?S (fun _ _ _ _ z => z)
  case F =>
    intro w mg fa h Y KX G hmg
    exact Cw.all_mk KX G hmg (by kernel_rfl) (by kernel_rfl)
  case S =>
    intro K H xs a hO hwi hask hx
    cases hx with
    | cons h1 h2 =>
      cases h2
      cases h1 with
      | lst hs ha =>
        have e := L2.ints_dw a.1 _ ha
        subst e
        have q : ((Codec.inLen 0 20000 a.1 && a.1.all (Codec.inInt (-200000) 100000000000)) && true) = true := hwi
        rw [Bool.and_eq_true, Bool.and_eq_true] at q
        exact ⟨_, a.1, rfl, hs, hask, (Codec.inNat_iff.mp q.1.1).2, fun p H' hp => .lst (L2.SqL.of hp) (L2.dw_ints _)⟩
#print axioms PySem.Challenge.cw_clockworks_s01_answers_holds
