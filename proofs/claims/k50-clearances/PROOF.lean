import PyProof.Rows.All
import Wide.All
import OpenK.AllK
import Wide.FinOn
import HandS.ForMost
import HandS.ForExc
import HandS.Wide
import HandS.TupAny
import HandS.NoneIn
import HandS.Evl
import HandS.ExcIs
import HandS.Defaults
import HandS.ExcOwn
import PySem.Challenge.RW_raytrain_k50_clearances
set_option Elab.async false
set_option linter.all false
set_option maxRecDepth 100000
set_option maxHeartbeats 7654321
namespace Rt
theorem of_cons {α : Type _} {a b : α} {l : List α} (h : a ∈ b :: l) : a = b ∨ a ∈ l := List.mem_cons.mp h
theorem of_append {α : Type _} {a : α} {l m : List α} (h : a ∈ l ++ m) : a ∈ l ∨ a ∈ m := List.mem_append.mp h
theorem of_map {α β : Type _} {f : α → β} {b : β} {l : List α} (h : b ∈ l.map f) : ∃ a, a ∈ l ∧ f a = b := List.mem_map.mp h
theorem of_one {α : Type _} {a b : α} (h : a ∈ [b]) : a = b := List.mem_singleton.mp h
theorem of_nat {i : Int} (h : 0 ≤ i) : ∃ n : Nat, i = n := Int.eq_ofNat_of_zero_le h
theorem fdiv_num {n d : Int} (hd : 0 < d) : Int.fdiv n (Int.gcd n d : Int) = (Rat.divInt n d).num := by
  rw [Rat.num_divInt, Int.sign_eq_one_of_pos hd, Int.one_mul, Int.gcd_comm, Int.fdiv_eq_ediv_of_nonneg _ (Int.natCast_nonneg _)]
theorem fdiv_den {n d : Int} (hd : 0 < d) : Int.fdiv d (Int.gcd n d : Int) = ((Rat.divInt n d).den : Int) := by
  rw [Rat.den_divInt, if_neg (by omega), Int.fdiv_eq_ediv_of_nonneg _ (Int.natCast_nonneg _), Int.gcd_comm]
  rw [Int.natCast_ediv, Int.natAbs_of_nonneg (by omega)]
theorem fdiv_num' {n d : Int} (hd : d < 0) : Int.fdiv n (-(Int.gcd n d : Int)) = (Rat.divInt n d).num := by
  rw [← Int.neg_fdiv_neg, Int.neg_neg, Rat.num_divInt, Int.sign_eq_neg_one_of_neg hd, Int.gcd_comm, Int.fdiv_eq_ediv_of_nonneg _ (Int.natCast_nonneg _)]
  congr 1
  omega
theorem fdiv_den' {n d : Int} (hd : d < 0) : Int.fdiv d (-(Int.gcd n d : Int)) = ((Rat.divInt n d).den : Int) := by
  rw [← Int.neg_fdiv_neg, Int.neg_neg, Rat.den_divInt, if_neg (by omega), Int.fdiv_eq_ediv_of_nonneg _ (Int.natCast_nonneg _), Int.gcd_comm]
  rw [Int.natCast_ediv]
  congr 1
  omega
end Rt
namespace Rt
/-- at most so many bits above and below -/
def B (n d : Nat) (x : Rat) : Prop := x.num.natAbs < 2 ^ n ∧ x.den < 2 ^ d
theorem B.mono {n d m e : Nat} {x : Rat} (h : B n d x) (h1 : n ≤ m) (h2 : d ≤ e) : B m e x :=
  ⟨Nat.lt_of_lt_of_le h.1 (Nat.pow_le_pow_right (by decide) h1), Nat.lt_of_lt_of_le h.2 (Nat.pow_le_pow_right (by decide) h2)⟩
theorem num_le {n d : Int} (hd : d ≠ 0) : (Rat.divInt n d).num.natAbs ≤ n.natAbs := by
  have hs : d.sign.natAbs = 1 := by
    rw [Int.natAbs_sign]; simp [hd]
  rw [Rat.num_divInt, Int.natAbs_ediv_of_dvd, Int.natAbs_mul, hs, Nat.one_mul]
  · exact Nat.div_le_self _ _
  · rw [Int.gcd_comm]; exact Int.dvd_trans (Int.gcd_dvd_left ..) (Int.dvd_mul_left ..)
theorem den_le {n d : Int} (hd : d ≠ 0) : (Rat.divInt n d).den ≤ d.natAbs := by
  rw [Rat.den_divInt, if_neg hd]
  exact Nat.div_le_self _ _
theorem B.of_divInt {n d : Int} {k e : Nat} (hd : d ≠ 0) (h1 : n.natAbs < 2 ^ k) (h2 : d.natAbs < 2 ^ e) : B k e (Rat.divInt n d) :=
  ⟨Nat.lt_of_le_of_lt (num_le hd) h1, Nat.lt_of_le_of_lt (den_le hd) h2⟩
theorem add_eq (x y : Rat) : x + y = Rat.divInt (x.num * y.den + y.num * x.den) (x.den * y.den) := by
  rw [Rat.add_def']; rfl
theorem mul_eq (x y : Rat) : x * y = Rat.divInt (x.num * y.num) (x.den * y.den) := by
  rw [Rat.mul_def']; rfl
theorem div_eq (x y : Rat) : x / y = Rat.divInt (x.num * y.den) (x.den * y.num) := by
  rw [Rat.div_def, Rat.inv_def]
  conv => lhs; rw [← Rat.num_divInt_den x]
  rw [Rat.divInt_mul_divInt]
theorem den_ne (x : Rat) : (x.den : Int) ≠ 0 := by
  have := x.den_nz; omega
theorem dens_ne (x y : Rat) : (x.den : Int) * y.den ≠ 0 := Int.mul_ne_zero (den_ne x) (den_ne y)
theorem num_ne {x : Rat} (h : x ≠ 0) : x.num ≠ 0 := fun e => h (Rat.num_eq_zero.mp e)
theorem lt_mul {a b n m : Nat} (h1 : a < 2 ^ n) (h2 : b < 2 ^ m) : a * b < 2 ^ (n + m) := by
  rw [Nat.pow_add]; exact Nat.mul_lt_mul'' h1 h2
theorem lt_sum {a b n m k : Nat} (h1 : a < 2 ^ n) (h2 : b < 2 ^ m) (h3 : n < k) (h4 : m < k) : a + b < 2 ^ k := by
  have e1 : (2:Nat) ^ n ≤ 2 ^ (k - 1) := Nat.pow_le_pow_right (by decide) (by omega)
  have e2 : (2:Nat) ^ m ≤ 2 ^ (k - 1) := Nat.pow_le_pow_right (by decide) (by omega)
  have e3 : (2:Nat) ^ k = 2 ^ (k - 1) + 2 ^ (k - 1) := by
    have : k = (k - 1) + 1 := by omega
    conv => lhs; rw [this, Nat.pow_succ]
    omega
  omega
theorem abs_mul_lt {a b : Int} {n m : Nat} (h1 : a.natAbs < 2 ^ n) (h2 : b.natAbs < 2 ^ m) : (a * b).natAbs < 2 ^ (n + m) := by
  rw [Int.natAbs_mul]; exact lt_mul h1 h2
theorem abs_add_lt {a b : Int} {n m k : Nat} (h1 : a.natAbs < 2 ^ n) (h2 : b.natAbs < 2 ^ m) (h3 : n < k) (h4 : m < k) : (a + b).natAbs < 2 ^ k :=
  Nat.lt_of_le_of_lt (Int.natAbs_add_le a b) (lt_sum h1 h2 h3 h4)
theorem B.add {n d m e k : Nat} {x y : Rat} (h : B n d x) (g : B m e y) (h1 : n + e < k) (h2 : m + d < k) : B k (d + e) (x + y) := by
  rw [add_eq]
  refine .of_divInt (dens_ne x y) (abs_add_lt (n := n + e) (m := m + d) ?_ ?_ h1 h2) ?_
  · exact abs_mul_lt h.1 (by simpa using g.2)
  · exact abs_mul_lt g.1 (by simpa using h.2)
  · exact abs_mul_lt (by simpa using h.2) (by simpa using g.2)
theorem B.neg {n d : Nat} {x : Rat} (h : B n d x) : B n d (-x) := by
  refine ⟨?_, h.2⟩
  rw [Rat.neg_num, Int.natAbs_neg]; exact h.1
theorem B.sub {n d m e k : Nat} {x y : Rat} (h : B n d x) (g : B m e y) (h1 : n + e < k) (h2 : m + d < k) : B k (d + e) (x - y) := by
  rw [Rat.sub_eq_add_neg]; exact h.add g.neg h1 h2
theorem B.mul {n d m e : Nat} {x y : Rat} (h : B n d x) (g : B m e y) : B (n + m) (d + e) (x * y) := by
  rw [mul_eq]
  refine .of_divInt (dens_ne x y) (abs_mul_lt h.1 g.1) ?_
  exact abs_mul_lt (by simpa using h.2) (by simpa using g.2)
theorem B.div {n d m e : Nat} {x y : Rat} (h : B n d x) (g : B m e y) (hy : y ≠ 0) : B (n + e) (d + m) (x / y) := by
  rw [div_eq]
  refine .of_divInt (Int.mul_ne_zero (den_ne x) (num_ne hy)) (abs_mul_lt h.1 (by simpa using g.2)) ?_
  exact abs_mul_lt (by simpa using h.2) g.1
theorem B.int {n : Nat} {i : Int} (h : i.natAbs < 2 ^ n) : B n 1 (i : Rat) := ⟨h, by show 1 < 2 ^ 1; decide⟩
theorem B.zero {n d : Nat} (h : 0 < d) : B n d 0 := ⟨Nat.pow_pos (by decide), by
  show 1 < 2 ^ d
  exact Nat.one_lt_two_pow (by omega)⟩
theorem B.one {n d : Nat} (h1 : 0 < n) (h : 0 < d) : B n d 1 := ⟨Nat.one_lt_two_pow (by omega), Nat.one_lt_two_pow (by omega)⟩
/-! ### a common denominator -/
/-- x is k / D, the k at most N in size -/
def C (D N : Nat) (x : Rat) : Prop := ∃ k : Int, x * (D : Rat) = (k : Rat) ∧ k.natAbs ≤ N
theorem C.zero {D N : Nat} : C D N 0 := ⟨0, by rw [Rat.zero_mul]; rfl, Nat.zero_le _⟩
theorem C.mono {D N M : Nat} {x : Rat} (h : C D N x) (hN : N ≤ M) : C D M x := by
  obtain ⟨k, e, hk⟩ := h
  exact ⟨k, e, Nat.le_trans hk hN⟩
theorem C.scale {D N : Nat} {x : Rat} (h : C D N x) (E : Nat) : C (D * E) (N * E) x := by
  obtain ⟨k, e, hk⟩ := h
  refine ⟨k * E, ?_, ?_⟩
  · have : ((D * E : Nat) : Rat) = (D : Rat) * (E : Rat) := Rat.natCast_mul D E
    have h2 : ((k * (E : Int) : Int) : Rat) = (k : Rat) * ((E : Int) : Rat) := Rat.intCast_mul k E
    have h3 : ((E : Int) : Rat) = (E : Rat) := Rat.intCast_natCast E
    rw [this, h2, h3, ← e]
    grind
  · rw [Int.natAbs_mul]
    exact Nat.mul_le_mul hk (by simp)
theorem C.add {D N M : Nat} {x y : Rat} (h : C D N x) (g : C D M y) : C D (N + M) (x + y) := by
  obtain ⟨k, e, hk⟩ := h
  obtain ⟨l, f, hl⟩ := g
  refine ⟨k + l, ?_, Nat.le_trans (Int.natAbs_add_le k l) (Nat.add_le_add hk hl)⟩
  rw [Rat.intCast_add, ← e, ← f, Rat.add_mul]
theorem C.neg {D N : Nat} {x : Rat} (h : C D N x) : C D N (-x) := by
  obtain ⟨k, e, hk⟩ := h
  refine ⟨-k, ?_, by rw [Int.natAbs_neg]; exact hk⟩
  rw [Rat.intCast_neg, ← e, Rat.neg_mul]
theorem C.sub {D N M : Nat} {x y : Rat} (h : C D N x) (g : C D M y) : C D (N + M) (x - y) := by
  rw [Rat.sub_eq_add_neg]; exact h.add g.neg
theorem C.mul {D N E M : Nat} {x y : Rat} (h : C D N x) (g : C E M y) : C (D * E) (N * M) (x * y) := by
  obtain ⟨k, e, hk⟩ := h
  obtain ⟨l, f, hl⟩ := g
  refine ⟨k * l, ?_, by rw [Int.natAbs_mul]; exact Nat.mul_le_mul hk hl⟩
  have h1 : ((D * E : Nat) : Rat) = (D : Rat) * (E : Rat) := Rat.natCast_mul D E
  rw [Rat.intCast_mul, ← e, ← f, h1]
  grind
/-- from x as k over D -/
theorem C.eq {D : Nat} {x : Rat} {k : Int} (h : x * (D : Rat) = (k : Rat)) (hD : D ≠ 0) : x = Rat.divInt k D := by
  have hD' : (D : Rat) ≠ 0 := by
    intro e
    exact hD (Rat.natCast_inj.mp (e.trans rfl))
  rw [Rat.divInt_eq_div, ← h]
  have : (((D : Nat) : Int) : Rat) = (D : Rat) := Rat.intCast_natCast D
  rw [this, Rat.mul_div_cancel hD']
theorem C.bits {D N n d : Nat} {x : Rat} (h : C D N x) (hD : D ≠ 0) (h1 : N < 2 ^ n) (h2 : D < 2 ^ d) : B n d x := by
  obtain ⟨k, e, hk⟩ := h
  rw [C.eq e hD]
  exact .of_divInt (by omega) (by omega) (by simpa using h2)
end Rt
namespace Rt
/-- an element of a train -/
inductive El where
  | gap (l : Rat) | lens (p c : Rat) | prism (d : Rat) | afocal (m : Rat) | stop (lo hi : Option Rat)
/-- a ray -/
abbrev Ray := Rat × Rat
structure Mp where
  (a b c d e f : Rat)
def El.mp : El → Mp
  | .gap l => ⟨1, l, 0, 1, 0, 0⟩
  | .lens p c => ⟨1, 0, -p, 1, 0, p * c⟩
  | .prism d => ⟨1, 0, 0, 1, 0, d⟩
  | .afocal m => ⟨m, 0, 0, 1 / m, 0, 0⟩
  | .stop _ _ => ⟨1, 0, 0, 1, 0, 0⟩
def Mp.id : Mp := ⟨1, 0, 0, 1, 0, 0⟩
def Mp.app (x : Mp) (r : Ray) : Ray := (x.a * r.1 + x.b * r.2 + x.e, x.c * r.1 + x.d * r.2 + x.f)
/-- first x, then y -/
def Mp.comp (x y : Mp) : Mp :=
  ⟨y.a * x.a + y.b * x.c, y.a * x.b + y.b * x.d, y.c * x.a + y.d * x.c, y.c * x.b + y.d * x.d, y.a * x.e + y.b * x.f + y.e, y.c * x.e + y.d * x.f + y.f⟩
def transfer (t : List El) : Mp := t.foldl (fun x e => x.comp e.mp) .id
def El.go (e : El) (r : Ray) : Ray := match e with
  | .gap l => (r.1 + l * r.2, r.2)
  | .lens p c => (r.1, r.2 - p * (r.1 - c))
  | .prism d => (r.1, r.2 + d)
  | .afocal m => (m * r.1, r.2 / m)
  | .stop _ _ => r
def out (t : List El) (r : Ray) : Ray := t.foldl (fun r e => e.go r) r
theorem go_mp (e : El) (r : Ray) : e.go r = e.mp.app r := by
  cases e <;> simp only [El.go, El.mp, Mp.app] <;> refine Prod.ext ?_ ?_ <;> simp only <;> grind
theorem app_comp (x y : Mp) (r : Ray) : (x.comp y).app r = y.app (x.app r) := by
  simp only [Mp.comp, Mp.app]
  refine Prod.ext ?_ ?_ <;> simp only <;> grind
theorem app_id (r : Ray) : Mp.id.app r = r := by
  simp only [Mp.id, Mp.app]
  refine Prod.ext ?_ ?_ <;> simp only <;> grind
theorem out_from (t : List El) : ∀ (x : Mp) (r : Ray), t.foldl (fun r e => e.go r) (x.app r) = (t.foldl (fun x e => x.comp e.mp) x).app r := by
  induction t with
  | nil => intro x r; rfl
  | cons e t ih =>
    intro x r
    rw [List.foldl_cons, List.foldl_cons, go_mp, ← app_comp]
    exact ih _ _
/-- the walk is the map -/
theorem out_eq (t : List El) (r : Ray) : out t r = (transfer t).app r := by
  have := out_from t .id r
  rw [app_id] at this
  exact this
/-! ### what is handed in -/
def El.ok : El → Prop
  | .afocal m => m ≠ 0
  | _ => True
def Mp.det (x : Mp) : Rat := x.a * x.d - x.b * x.c
theorem det_comp (x y : Mp) : (x.comp y).det = x.det * y.det := by
  simp only [Mp.comp, Mp.det]; grind
theorem det_mp {e : El} (h : e.ok) : e.mp.det = 1 := by
  cases e <;> simp only [El.mp, Mp.det] <;> try grind
  case afocal m =>
    have hm : m ≠ 0 := h
    have : 1 / m * m = 1 := Rat.div_mul_cancel hm
    grind
theorem det_from (t : List El) : ∀ (x : Mp), x.det = 1 → (∀ e ∈ t, e.ok) → (t.foldl (fun x e => x.comp e.mp) x).det = 1 := by
  induction t with
  | nil => intro x h _; exact h
  | cons e t ih =>
    intro x h ho
    refine ih _ ?_ fun e h => ho e (List.mem_cons_of_mem _ h)
    rw [det_comp, h, det_mp (ho e List.mem_cons_self)]
    exact Rat.mul_one 1
theorem det_transfer {t : List El} (h : ∀ e ∈ t, e.ok) : (transfer t).det = 1 := by
  refine det_from t .id ?_ h
  simp only [Mp.id, Mp.det]; grind
/-- not both 0 -/
theorem top_ne {t : List El} (h : ∀ e ∈ t, e.ok) : (transfer t).a ≠ 0 ∨ (transfer t).b ≠ 0 := by
  have d := det_transfer h
  unfold Mp.det at d
  by_cases ha : (transfer t).a = 0
  · by_cases hb : (transfer t).b = 0
    · rw [ha, hb] at d
      exfalso; grind
    · exact .inr hb
  · exact .inl ha
/-! ### sizes -/
/-- an element's parts -/
def El.small : El → Prop
  | .gap l => C 6 24 l
  | .lens p c => C 6 24 p ∧ C 6 24 c
  | .prism d => C 6 24 d
  | .afocal m => C 6 24 m ∧ C 12 36 (1 / m)
  | .stop lo hi => (∀ x, lo = some x → C 6 48 x) ∧ (∀ x, hi = some x → C 6 48 x)
structure Mp.size (x : Mp) (D N : Nat) : Prop where
  a : C D N x.a
  b : C D N x.b
  c : C D N x.c
  d : C D N x.d
  e : C D N x.e
  f : C D N x.f
theorem C.one_scale {D : Nat} : C D D 1 := ⟨D, by rw [Rat.one_mul, Rat.intCast_natCast], by simp⟩
theorem size_mp {e : El} (h : e.small) : e.mp.size 36 576 := by
  have one : C 36 576 (1 : Rat) := C.one_scale.mono (by decide)
  have z : C 36 576 (0 : Rat) := .zero
  cases e with
  | gap l => exact ⟨one, (C.scale h 6).mono (by decide), z, one, z, z⟩
  | lens p c => exact ⟨one, z, (C.scale h.1 6).neg.mono (by decide), one, z, C.mul h.1 h.2⟩
  | prism d => exact ⟨one, z, z, one, z, (C.scale h 6).mono (by decide)⟩
  | afocal m => exact ⟨(C.scale h.1 6).mono (by decide), z, z, (C.scale h.2 3).mono (by decide), z, z⟩
  | stop lo hi => exact ⟨one, z, z, one, z, z⟩
/-- an element's map in 36ths: a row of the matrix is at most 5 in sum -/
structure Mp.Row (y : Mp) (k m n o : Nat) : Prop where
  a : C 36 k y.a
  b : C 36 m y.b
  c : C 36 n y.c
  d : C 36 o y.d
  e : C 36 576 y.e
  f : C 36 576 y.f
  km : k + m ≤ 180
  no : n + o ≤ 180
theorem row_mp {e : El} (h : e.small) : ∃ k m n o, e.mp.Row k m n o := by
  have one : C 36 36 (1 : Rat) := C.one_scale
  have z : ∀ {n}, C 36 n (0 : Rat) := C.zero
  cases e with
  | gap l => exact ⟨36, 144, 0, 36, one, (C.scale h 6).mono (by decide), z, one, z, z, by decide, by decide⟩
  | lens p c => exact ⟨36, 0, 144, 36, one, z, (C.scale h.1 6).neg.mono (by decide), one, z, C.mul h.1 h.2, by decide, by decide⟩
  | prism d => exact ⟨36, 0, 0, 36, one, z, z, one, z, (C.scale h 6).mono (by decide), by decide, by decide⟩
  | afocal m => exact ⟨144, 0, 0, 108, (C.scale h.1 6).mono (by decide), z, z, (C.scale h.2 3).mono (by decide), z, z, by decide, by decide⟩
  | stop lo hi => exact ⟨36, 0, 0, 36, one, z, z, one, z, z, by decide, by decide⟩
structure Mp.size2 (x : Mp) (D N E : Nat) : Prop where
  a : C D N x.a
  b : C D N x.b
  c : C D N x.c
  d : C D N x.d
  e : C D E x.e
  f : C D E x.f
theorem size_comp {x y : Mp} {D N E k m n o : Nat} (h : x.size2 D N E) (g : y.Row k m n o) : (x.comp y).size2 (36 * D) (180 * N) (180 * E + 576 * D) := by
  have up : ∀ {k m M : Nat}, k + m ≤ 180 → k * M + m * M ≤ 180 * M := fun hk => by rw [← Nat.add_mul]; exact Nat.mul_le_mul_right _ hk
  have p : ∀ {u v s t : Rat} {k m M : Nat}, k + m ≤ 180 → C 36 k u → C D M v → C 36 m s → C D M t → C (36 * D) (180 * M) (u * v + s * t) := fun hk a b c d => ((a.mul b).add (c.mul d)).mono (up hk)
  exact ⟨p g.km g.a h.a g.b h.c, p g.km g.a h.b g.b h.d, p g.no g.c h.a g.d h.c, p g.no g.c h.b g.d h.d, (p g.km g.a h.e g.b h.f).add (g.e.scale D), (p g.no g.c h.e g.d h.f).add (g.f.scale D)⟩
theorem size_from (t : List El) : ∀ (x : Mp) (i E : Nat), x.size2 (36 ^ i) (180 ^ i) E → E + 4 * 36 ^ i ≤ 4 * 180 ^ i → (∀ e ∈ t, e.small) → ∃ E', (t.foldl (fun x e => x.comp e.mp) x).size2 (36 ^ (i + t.length)) (180 ^ (i + t.length)) E' ∧ E' + 4 * 36 ^ (i + t.length) ≤ 4 * 180 ^ (i + t.length) := by
  induction t with
  | nil => intro x i E h hE _; exact ⟨E, h, hE⟩
  | cons e t ih =>
    intro x i E h hE ho
    rw [List.length_cons, List.foldl_cons]
    obtain ⟨k, m, n, o, g⟩ := row_mp (ho e List.mem_cons_self)
    have s := size_comp h g
    have e1 : 36 * 36 ^ i = 36 ^ (i + 1) := by rw [Nat.pow_succ, Nat.mul_comm]
    have e2 : 180 * 180 ^ i = 180 ^ (i + 1) := by rw [Nat.pow_succ, Nat.mul_comm]
    have := ih (x.comp e.mp) (i + 1) (180 * E + 576 * 36 ^ i) (by rw [← e1, ← e2]; exact s) (by rw [← e1, ← e2]; omega) fun e h => ho e (List.mem_cons_of_mem _ h)
    rw [show i + (t.length + 1) = i + 1 + t.length by omega]
    exact this
theorem size_transfer {t : List El} (h : ∀ e ∈ t, e.small) : (transfer t).size (36 ^ t.length) (4 * 180 ^ t.length) := by
  obtain ⟨E, s, hE⟩ := size_from t .id 0 0 ⟨C.one_scale, .zero, .zero, C.one_scale, .zero, .zero⟩ (by decide) h
  rw [Nat.zero_add] at s hE
  exact ⟨s.a.mono (by omega), s.b.mono (by omega), s.c.mono (by omega), s.d.mono (by omega), s.e.mono (by omega), s.f.mono (by omega)⟩
end Rt
namespace Rt
/-! ### whole numbers without a common divisor -/
def gcd3 (a b c : Int) : Nat := Nat.gcd (Nat.gcd (Nat.gcd 0 a.natAbs) b.natAbs) c.natAbs
theorem gcd3_mul (a b c : Int) (k : Int) : gcd3 (a * k) (b * k) (c * k) = gcd3 a b c * k.natAbs := by
  unfold gcd3
  rw [Int.natAbs_mul, Int.natAbs_mul, Int.natAbs_mul, Nat.gcd_zero_left, Nat.gcd_zero_left, Nat.gcd_mul_right, Nat.gcd_mul_right]
theorem gcd3_dvd1 (a b c : Int) : (gcd3 a b c : Int) ∣ a := by
  unfold gcd3
  rw [Nat.gcd_zero_left]
  exact Int.ofNat_dvd_left.mpr (Nat.dvd_trans (Nat.gcd_dvd_left ..) (Nat.gcd_dvd_left ..))
theorem gcd3_dvd2 (a b c : Int) : (gcd3 a b c : Int) ∣ b := by
  unfold gcd3
  exact Int.ofNat_dvd_left.mpr (Nat.dvd_trans (Nat.gcd_dvd_left ..) (Nat.gcd_dvd_right ..))
theorem gcd3_dvd3 (a b c : Int) : (gcd3 a b c : Int) ∣ c := by
  unfold gcd3
  exact Int.ofNat_dvd_left.mpr (Nat.gcd_dvd_right ..)
theorem gcd3_ne {a b c : Int} (h : a ≠ 0 ∨ b ≠ 0) : gcd3 a b c ≠ 0 := by
  intro e
  have h1 := gcd3_dvd1 a b c
  have h2 := gcd3_dvd2 a b c
  rw [e] at h1 h2
  rcases h with h | h
  · exact h (Int.zero_dvd.mp h1)
  · exact h (Int.zero_dvd.mp h2)
/-- proportional rows have the same row without a common divisor -/
theorem prim_eq {u1 u2 u3 v1 v2 v3 D W : Int} (hD : 0 < D) (hW : 0 < W) (e1 : u1 * D = v1 * W) (e2 : u2 * D = v2 * W) (e3 : u3 * D = v3 * W) (hg : gcd3 u1 u2 u3 ≠ 0) :
    gcd3 v1 v2 v3 ≠ 0 ∧ u1 / (gcd3 u1 u2 u3 : Int) = v1 / (gcd3 v1 v2 v3 : Int) ∧ u2 / (gcd3 u1 u2 u3 : Int) = v2 / (gcd3 v1 v2 v3 : Int) ∧ u3 / (gcd3 u1 u2 u3 : Int) = v3 / (gcd3 v1 v2 v3 : Int) := by
  have k : (gcd3 u1 u2 u3 : Int) * D = (gcd3 v1 v2 v3 : Int) * W := by
    have a := gcd3_mul u1 u2 u3 D
    have b := gcd3_mul v1 v2 v3 W
    rw [e1, e2, e3, b] at a
    have a' := congrArg (fun n : Nat => (n : Int)) a
    simp only [Int.natCast_mul, Int.natAbs_of_nonneg (Int.le_of_lt hD), Int.natAbs_of_nonneg (Int.le_of_lt hW)] at a'
    exact a'.symm
  have hv : gcd3 v1 v2 v3 ≠ 0 := by
    intro e
    rw [e] at k
    have : (gcd3 u1 u2 u3 : Int) * D = 0 := by rw [k]; exact Int.zero_mul _
    rcases Int.mul_eq_zero.mp this with h | h
    · exact hg (by omega)
    · omega
  have gen : ∀ {u v : Int}, (gcd3 u1 u2 u3 : Int) ∣ u → (gcd3 v1 v2 v3 : Int) ∣ v → u * D = v * W → u / (gcd3 u1 u2 u3 : Int) = v / (gcd3 v1 v2 v3 : Int) := by
    intro u v ⟨x, hx⟩ ⟨y, hy⟩ e
    have gu : (gcd3 u1 u2 u3 : Int) ≠ 0 := by omega
    have gv : (gcd3 v1 v2 v3 : Int) ≠ 0 := by omega
    rw [hx, hy, Int.mul_ediv_cancel_left _ gu, Int.mul_ediv_cancel_left _ gv]
    rw [hx, hy, Int.mul_right_comm, k, Int.mul_right_comm (gcd3 v1 v2 v3 : Int) y W] at e
    exact Int.eq_of_mul_eq_mul_left (Int.mul_ne_zero gv (by omega)) e
  exact ⟨hv, gen (gcd3_dvd1 ..) (gcd3_dvd1 ..) e1, gen (gcd3_dvd2 ..) (gcd3_dvd2 ..) e2, gen (gcd3_dvd3 ..) (gcd3_dvd3 ..) e3⟩
abbrev Pl := Int × Int × Int
/-- the law's own words -/
def whole (p q r : Rat) : Int := p.den * q.den * r.den
def part (W : Int) (x : Rat) : Int := x.num * (W / x.den)
def planeOf (p q r : Rat) : Pl :=
  let W := whole p q r
  let g : Int := gcd3 (part W p) (part W q) (part W r)
  (part W p / g, part W q / g, part W r / g)
theorem whole_pos (p q r : Rat) : 0 < whole p q r := by
  have a := p.den_pos; have b := q.den_pos; have c := r.den_pos
  unfold whole
  exact Int.mul_pos (Int.mul_pos (by omega) (by omega)) (by omega)
theorem num_eq (x : Rat) : (x.num : Rat) = x * (x.den : Rat) := by
  have h : (x.den : Rat) ≠ 0 := fun e => x.den_nz (Rat.natCast_inj.mp (e.trans rfl))
  have e1 : Rat.divInt x.num x.den = x := Rat.num_divInt_den x
  rw [Rat.divInt_eq_div, Rat.intCast_natCast] at e1
  have e2 : (x.num : Rat) / (x.den : Rat) * (x.den : Rat) = x.num := Rat.div_mul_cancel h
  rw [e1] at e2
  exact e2.symm
theorem part_eq {W : Int} {x : Rat} (h : (x.den : Int) ∣ W) : (part W x : Rat) = x * (W : Rat) := by
  obtain ⟨k, rfl⟩ := h
  unfold part
  rw [Int.mul_ediv_cancel_left _ (den_ne x), Rat.intCast_mul, Rat.intCast_mul, num_eq, Rat.intCast_natCast, Rat.mul_assoc]
theorem dvd1 (p q r : Rat) : (p.den : Int) ∣ whole p q r := ⟨q.den * r.den, by unfold whole; rw [Int.mul_assoc]⟩
theorem dvd2 (p q r : Rat) : (q.den : Int) ∣ whole p q r := ⟨p.den * r.den, by unfold whole; rw [Int.mul_comm (p.den : Int), Int.mul_assoc]⟩
theorem dvd3 (p q r : Rat) : (r.den : Int) ∣ whole p q r := ⟨p.den * q.den, by unfold whole; rw [Int.mul_comm]⟩
theorem part_ne {W : Int} {x : Rat} (hW : 0 < W) (h : (x.den : Int) ∣ W) (hx : x ≠ 0) : part W x ≠ 0 := by
  obtain ⟨k, rfl⟩ := h
  unfold part
  rw [Int.mul_ediv_cancel_left _ (den_ne x)]
  refine Int.mul_ne_zero (num_ne hx) fun e => ?_
  rw [e, Int.mul_zero] at hW
  omega
theorem share_ne {p q r : Rat} (h : p ≠ 0 ∨ q ≠ 0) : gcd3 (part (whole p q r) p) (part (whole p q r) q) (part (whole p q r) r) ≠ 0 := by
  rcases h with h | h
  · exact gcd3_ne (.inl (part_ne (whole_pos ..) (dvd1 ..) h))
  · exact gcd3_ne (.inr (part_ne (whole_pos ..) (dvd2 ..) h))
def PlB (N : Nat) (x : Pl) : Prop := x.1.natAbs ≤ N ∧ x.2.1.natAbs ≤ N ∧ x.2.2.natAbs ≤ N
theorem div_le (a : Int) (g : Nat) : (a / (g : Int)).natAbs ≤ a.natAbs := Int.natAbs_ediv_le_natAbs a g
theorem plane_size {p q r : Rat} {D N : Nat} (hD : D ≠ 0) (h : p ≠ 0 ∨ q ≠ 0) (hp : C D N p) (hq : C D N q) (hr : C D N r) : PlB N (planeOf p q r) := by
  obtain ⟨k1, e1, n1⟩ := hp
  obtain ⟨k2, e2, n2⟩ := hq
  obtain ⟨k3, e3, n3⟩ := hr
  have gen : ∀ {x : Rat} {k : Int}, (x.den : Int) ∣ whole p q r → x * (D : Rat) = (k : Rat) → part (whole p q r) x * (D : Int) = k * whole p q r := by
    intro x k hd e
    apply Rat.intCast_inj.mp
    rw [Rat.intCast_mul, Rat.intCast_mul, part_eq hd, ← e, Rat.intCast_natCast]
    grind
  obtain ⟨_, a1, a2, a3⟩ := prim_eq (D := (D : Int)) (W := whole p q r) (by omega) (whole_pos ..) (gen (dvd1 ..) e1) (gen (dvd2 ..) e2) (gen (dvd3 ..) e3) (share_ne h)
  refine ⟨?_, ?_, ?_⟩
  · exact Nat.le_trans (by show (part _ p / _).natAbs ≤ _; rw [a1]; exact div_le _ _) n1
  · exact Nat.le_trans (by show (part _ q / _).natAbs ≤ _; rw [a2]; exact div_le _ _) n2
  · exact Nat.le_trans (by show (part _ r / _).natAbs ≤ _; rw [a3]; exact div_le _ _) n3
/-- a positive multiple -/
theorem plane_pos {p q r : Rat} (h : p ≠ 0 ∨ q ≠ 0) : ∃ t : Rat, 0 < t ∧ ((planeOf p q r).1 : Rat) = t * p ∧ ((planeOf p q r).2.1 : Rat) = t * q ∧ ((planeOf p q r).2.2 : Rat) = t * r := by
  have hg := share_ne (r := r) h
  refine ⟨(whole p q r : Rat) / (gcd3 (part (whole p q r) p) (part (whole p q r) q) (part (whole p q r) r) : Rat), ?_, ?_⟩
  · rw [Rat.lt_div_iff, Rat.zero_mul]
    · exact Rat.intCast_pos.mpr (whole_pos ..)
    · exact Rat.natCast_pos.mpr (by omega)
  have hgr : (gcd3 (part (whole p q r) p) (part (whole p q r) q) (part (whole p q r) r) : Rat) ≠ 0 := fun e => hg (Rat.natCast_inj.mp (e.trans rfl))
  have gen : ∀ {x : Rat}, (x.den : Int) ∣ whole p q r → (gcd3 (part (whole p q r) p) (part (whole p q r) q) (part (whole p q r) r) : Int) ∣ part (whole p q r) x →
      ((part (whole p q r) x / (gcd3 (part (whole p q r) p) (part (whole p q r) q) (part (whole p q r) r) : Int) : Int) : Rat) = (whole p q r : Rat) / (gcd3 (part (whole p q r) p) (part (whole p q r) q) (part (whole p q r) r) : Rat) * x := by
    intro x hd hv
    obtain ⟨y, hy⟩ := hv
    have e := part_eq hd
    rw [hy, Rat.intCast_mul, Rat.intCast_natCast] at e
    rw [hy, Int.mul_ediv_cancel_left _ (by omega)]
    generalize (gcd3 (part (whole p q r) p) (part (whole p q r) q) (part (whole p q r) r) : Rat) = g at *
    generalize (whole p q r : Rat) = w at *
    have : w / g * g = w := Rat.div_mul_cancel hgr
    grind
  exact ⟨gen (dvd1 ..) (gcd3_dvd1 ..), gen (dvd2 ..) (gcd3_dvd2 ..), gen (dvd3 ..) (gcd3_dvd3 ..)⟩
end Rt
namespace Rt
abbrev Ln := Rat × Rat × Rat
/-- the line of a plane for the height (false), for the slope (true) -/
def lineOf (dir : Bool) (p : Pl) : Ln := if dir then ((p.2.1 : Rat), (p.1 : Rat), (p.2.2 : Rat)) else ((p.1 : Rat), (p.2.1 : Rat), (p.2.2 : Rat))
def shareOf (x y : Ln) : Rat := -(x.2.1 / y.2.1)
def comb (x y : Ln) : Ln := (x.1 + shareOf x y * y.1, 0, x.2.2 + shareOf x y * y.2.2)
def zeros (ls : List Ln) : List Ln := ls.filter fun l => decide (l.2.1.num = 0)
def ups (ls : List Ln) : List Ln := ls.filter fun l => decide (l.2.1.num > 0)
def downs (ls : List Ln) : List Ln := ls.filter fun l => decide (l.2.1.num < 0)
def rowsOf (ls : List Ln) : List Ln := zeros ls ++ (ups ls).flatMap fun x => (downs ls).map fun y => comb x y
def bad (r : Ln) : Bool := decide (r.1.num = 0) && decide (r.2.2.num < 0)
def lowers (rs : List Ln) : List Rat := (rs.filter fun r => decide (r.1.num < 0)).map fun r => r.2.2 / r.1
def uppers (rs : List Ln) : List Rat := (rs.filter fun r => decide (r.1.num > 0)).map fun r => r.2.2 / r.1
def leastStep (b : Option Rat) (v : Rat) : Option Rat := match b with
  | none => some v
  | some b => if v < b then some v else some b
def greatestStep (b : Option Rat) (v : Rat) : Option Rat := match b with
  | none => some v
  | some b => if b < v then some v else some b
def leastR (xs : List Rat) : Option Rat := xs.foldl leastStep none
def greatestR (xs : List Rat) : Option Rat := xs.foldl greatestStep none
abbrev Bds := Option Rat × Option Rat
def crossed (b : Bds) : Bool := match b with
  | (some l, some u) => decide (u < l)
  | _ => false
def boundsOf (rs : List Ln) : Option Bds := if rs.any bad then none else
  if crossed (greatestR (lowers rs), leastR (uppers rs)) then none else some (greatestR (lowers rs), leastR (uppers rs))
def nearOf (b : Bds) : Rat := match b with
  | (some l, u) => if 0 < l then l else match u with
    | some u => if u < 0 then u else 0
    | none => 0
  | (none, some u) => if u < 0 then u else 0
  | (none, none) => 0
theorem num_pos {x : Rat} : x.num > 0 ↔ 0 < x := by
  rw [Rat.lt_iff]; simp
theorem num_neg {x : Rat} : x.num < 0 ↔ x < 0 := by
  rw [Rat.lt_iff]; simp
/-! ### least, greatest -/
theorem least_from (xs : List Rat) : ∀ b : Rat, ∃ m, xs.foldl leastStep (some b) = some m ∧ m ≤ b ∧ (∀ x ∈ xs, m ≤ x) ∧ (m = b ∨ m ∈ xs) := by
  induction xs with
  | nil => intro b; exact ⟨b, rfl, Rat.le_refl, (fun _ h => nomatch h), .inl rfl⟩
  | cons x xs ih =>
    intro b
    rw [List.foldl_cons]
    by_cases h : x < b
    · obtain ⟨m, e, h1, h2, h3⟩ := ih x
      refine ⟨m, ?_, Rat.le_trans h1 (Rat.le_of_lt h), ?_, ?_⟩
      · show List.foldl leastStep (if x < b then some x else some b) xs = _
        rw [if_pos h, e]
      · intro y hy
        rcases of_cons hy with rfl | hy
        · exact h1
        · exact h2 y hy
      · rcases h3 with h3 | h3
        · exact .inr (h3 ▸ List.mem_cons_self)
        · exact .inr (List.mem_cons_of_mem _ h3)
    · obtain ⟨m, e, h1, h2, h3⟩ := ih b
      refine ⟨m, ?_, h1, ?_, ?_⟩
      · show List.foldl leastStep (if x < b then some x else some b) xs = _
        rw [if_neg h, e]
      · intro y hy
        rcases of_cons hy with rfl | hy
        · exact Rat.le_trans h1 (Rat.not_lt.mp h)
        · exact h2 y hy
      · rcases h3 with h3 | h3
        · exact .inl h3
        · exact .inr (List.mem_cons_of_mem _ h3)
theorem least_nil {xs : List Rat} : leastR xs = none ↔ xs = [] := by
  cases xs with
  | nil => simp [leastR]
  | cons x xs =>
    obtain ⟨m, e, _⟩ := least_from xs x
    have : leastR (x :: xs) = some m := e
    simp [this]
theorem least_some {xs : List Rat} {m : Rat} (h : leastR xs = some m) : m ∈ xs ∧ ∀ x ∈ xs, m ≤ x := by
  cases xs with
  | nil => cases h
  | cons x xs =>
    obtain ⟨m', e, h1, h2, h3⟩ := least_from xs x
    have : leastR (x :: xs) = some m' := e
    rw [this] at h
    cases h
    refine ⟨?_, ?_⟩
    · rcases h3 with h3 | h3
      · exact h3 ▸ List.mem_cons_self
      · exact List.mem_cons_of_mem _ h3
    · intro y hy
      rcases of_cons hy with rfl | hy
      · exact h1
      · exact h2 y hy
theorem greatest_from (xs : List Rat) : ∀ b : Option Rat, xs.foldl greatestStep b = ((xs.map (fun x => -x)).foldl leastStep (b.map fun x => -x)).map fun x => -x := by
  induction xs with
  | nil => intro b; cases b <;> simp [Rat.neg_neg]
  | cons x xs ih =>
    intro b
    rw [List.foldl_cons, List.map_cons, List.foldl_cons, ih]
    congr 2
    cases b with
    | none => rfl
    | some b =>
      show (if b < x then some x else some b).map (fun x => -x) = if -x < -b then some (-x) else some (-b)
      have : (-x < -b) ↔ b < x := Rat.neg_lt_neg_iff
      by_cases h : b < x
      · rw [if_pos h, if_pos (this.mpr h)]; rfl
      · rw [if_neg h, if_neg (fun q => h (this.mp q))]; rfl
theorem greatest_eq (xs : List Rat) : greatestR xs = (leastR (xs.map fun x => -x)).map fun x => -x := greatest_from xs none
theorem greatest_some {xs : List Rat} {m : Rat} (h : greatestR xs = some m) : m ∈ xs ∧ ∀ x ∈ xs, x ≤ m := by
  rw [greatest_eq] at h
  cases e : leastR (xs.map fun x => -x) with
  | none => (rw [e] at h; cases h)
  | some k =>
    rw [e] at h
    have hk : -k = m := Option.some.inj h
    obtain ⟨h1, h2⟩ := least_some e
    obtain ⟨y, hy, ey⟩ := of_map h1
    refine ⟨?_, ?_⟩
    · rw [← hk, ← ey, Rat.neg_neg]; exact hy
    · intro x hx
      have := h2 (-x) (List.mem_map.mpr ⟨x, hx, rfl⟩)
      rw [← hk]
      grind
theorem greatest_nil {xs : List Rat} : greatestR xs = none ↔ xs = [] := by
  rw [greatest_eq, Option.map_eq_none_iff, least_nil, List.map_eq_nil_iff]
/-- the least of the differences -/
theorem least_sub (xs : List Rat) (c : Rat) : leastR (xs.map fun x => x - c) = (leastR xs).map fun x => x - c := by
  have gen : ∀ (xs : List Rat) (b : Option Rat), (xs.map fun x => x - c).foldl leastStep (b.map fun x => x - c) = (xs.foldl leastStep b).map fun x => x - c := by
    intro xs
    induction xs with
    | nil => intro b; rfl
    | cons x xs ih =>
      intro b
      rw [List.map_cons, List.foldl_cons]; rw [List.foldl_cons, ← ih]
      congr 1
      cases b with
      | none => rfl
      | some b =>
        show (if x - c < b - c then some (x - c) else some (b - c)) = (if x < b then some x else some b).map fun x => x - c
        have : (x - c < b - c) ↔ x < b := by constructor <;> intro h <;> grind
        by_cases h : x < b
        · rw [if_pos h, if_pos (this.mpr h)]; rfl
        · rw [if_neg h, if_neg (fun q => h (this.mp q))]; rfl
  exact gen xs none
theorem least_rsub (xs : List Rat) (c : Rat) : leastR (xs.map fun x => c - x) = (greatestR xs).map fun x => c - x := by
  have gen : ∀ (xs : List Rat) (b : Option Rat), (xs.map fun x => c - x).foldl leastStep (b.map fun x => c - x) = (xs.foldl greatestStep b).map fun x => c - x := by
    intro xs
    induction xs with
    | nil => intro b; rfl
    | cons x xs ih =>
      intro b
      rw [List.map_cons, List.foldl_cons]; rw [List.foldl_cons, ← ih]
      congr 1
      cases b with
      | none => rfl
      | some b =>
        show (if c - x < c - b then some (c - x) else some (c - b)) = (if b < x then some x else some b).map fun x => c - x
        have : (c - x < c - b) ↔ b < x := by constructor <;> intro h <;> grind
        by_cases h : b < x
        · rw [if_pos h, if_pos (this.mpr h)]; rfl
        · rw [if_neg h, if_neg (fun q => h (this.mp q))]; rfl
  exact gen xs none
/-! ### taking one out -/
def Holds (r : Ln) (x y : Rat) : Prop := r.1 * x + r.2.1 * y ≤ r.2.2
theorem not_bad {r : Ln} (h : bad r = false) (e : r.1 = 0) : 0 ≤ r.2.2 := by
  have h1 : r.1.num = 0 := Rat.num_eq_zero.mpr e
  unfold bad at h
  rw [h1] at h
  have h2 : ¬ r.2.2.num < 0 := by simpa using h
  rw [num_neg] at h2
  exact Rat.not_lt.mp h2
theorem div_le_of {w u x : Rat} (hu : u < 0) (h : w / u ≤ x) : u * x ≤ w := by
  have e : w / u * u = w := Rat.div_mul_cancel (Rat.ne_of_lt hu)
  have := Rat.mul_le_mul_of_nonneg_right h (show (0:Rat) ≤ -u by grind)
  grind
theorem le_of_div {w u x : Rat} (hu : 0 < u) (h : x ≤ w / u) : u * x ≤ w := by
  have e : w / u * u = w := Rat.div_mul_cancel (Rat.ne_of_gt hu)
  have := Rat.mul_le_mul_of_nonneg_right h (Rat.le_of_lt hu)
  grind
theorem div_le_to {w u x : Rat} (hu : u < 0) (h : u * x ≤ w) : w / u ≤ x := by
  have e : w / u * u = w := Rat.div_mul_cancel (Rat.ne_of_lt hu)
  apply Rat.not_lt.mp
  intro c
  have := Rat.mul_lt_mul_of_pos_right c (show (0:Rat) < -u by grind)
  grind
theorem le_div_to {w u x : Rat} (hu : 0 < u) (h : u * x ≤ w) : x ≤ w / u := by
  have e : w / u * u = w := Rat.div_mul_cancel (Rat.ne_of_gt hu)
  apply Rat.not_lt.mp
  intro c
  have := Rat.mul_lt_mul_of_pos_right c hu
  grind
theorem near_in {b : Bds} (h : crossed b = false) : (∀ l, b.1 = some l → l ≤ nearOf b) ∧ ∀ u, b.2 = some u → nearOf b ≤ u := by
  obtain ⟨l, u⟩ := b
  cases l with
  | none =>
    cases u with
    | none => exact ⟨(fun _ e => nomatch e), (fun _ e => nomatch e)⟩
    | some u =>
      refine ⟨fun _ e => (nomatch e), fun v e => ?_⟩
      cases e
      show (if u < 0 then u else 0) ≤ u
      split
      · exact Rat.le_refl
      · rename_i h; exact Rat.not_lt.mp h
  | some l =>
    cases u with
    | none =>
      refine ⟨fun v e => ?_, fun _ e => nomatch e⟩
      cases e
      show l ≤ if 0 < l then l else 0
      split
      · exact Rat.le_refl
      · rename_i h; exact Rat.not_lt.mp h
    | some u =>
      have hlu : l ≤ u := by
        have : decide (u < l) = false := h
        exact Rat.not_lt.mp (of_decide_eq_false this)
      refine ⟨fun v e => ?_, fun v e => ?_⟩
      · cases e
        show l ≤ if 0 < l then l else if u < 0 then u else 0
        split
        · exact Rat.le_refl
        · split
          · exact hlu
          · rename_i h _; exact Rat.not_lt.mp h
      · cases e
        show (if 0 < l then l else if u < 0 then u else 0) ≤ u
        split
        · exact hlu
        · split
          · exact Rat.le_refl
          · rename_i h; exact Rat.not_lt.mp h
/-- the chosen one keeps all rows -/
theorem near_rows {rs : List Ln} {b : Bds} (h : boundsOf rs = some b) : ∀ r ∈ rs, r.1 * nearOf b ≤ r.2.2 := by
  unfold boundsOf at h
  split at h
  · cases h
  rename_i hb
  split at h
  · cases h
  rename_i hc
  cases h
  have hc' : crossed (greatestR (lowers rs), leastR (uppers rs)) = false := by simpa using hc
  obtain ⟨n1, n2⟩ := near_in hc'
  intro r hr
  have hbad : bad r = false := by
    have := fun q => hb (List.any_eq_true.mpr ⟨r, hr, q⟩)
    simpa using this
  generalize hx : nearOf (greatestR (lowers rs), leastR (uppers rs)) = x at *
  by_cases h1 : r.1.num < 0
  · have hm : r.2.2 / r.1 ∈ lowers rs := List.mem_map.mpr ⟨r, List.mem_filter.mpr ⟨hr, decide_eq_true h1⟩, rfl⟩
    cases e : greatestR (lowers rs) with
    | none => rw [greatest_nil] at e; rw [e] at hm; cases hm
    | some l => exact div_le_of (num_neg.mp h1) (Rat.le_trans ((greatest_some e).2 _ hm) (n1 l e))
  · by_cases h2 : r.1.num > 0
    · have hm : r.2.2 / r.1 ∈ uppers rs := List.mem_map.mpr ⟨r, List.mem_filter.mpr ⟨hr, decide_eq_true h2⟩, rfl⟩
      cases e : leastR (uppers rs) with
      | none => rw [least_nil] at e; rw [e] at hm; cases hm
      | some l => exact le_of_div (num_pos.mp h2) (Rat.le_trans (n2 l e) ((least_some e).2 _ hm))
    · have h0 : r.1 = 0 := Rat.num_eq_zero.mp (by omega)
      rw [h0, Rat.zero_mul]
      exact not_bad hbad h0
/-- all rows are kept: then there is a bound -/
theorem rows_bounds {rs : List Ln} {x : Rat} (h : ∀ r ∈ rs, r.1 * x ≤ r.2.2) : ∃ b, boundsOf rs = some b := by
  unfold boundsOf
  have h1 : ¬ rs.any bad = true := by
    intro q
    obtain ⟨r, hr, hb⟩ := List.any_eq_true.mp q
    unfold bad at hb
    rw [Bool.and_eq_true] at hb
    have a : r.1 = 0 := Rat.num_eq_zero.mp (of_decide_eq_true hb.1)
    have b : r.2.2 < 0 := num_neg.mp (of_decide_eq_true hb.2)
    have c := h r hr
    rw [a, Rat.zero_mul] at c
    exact Rat.not_lt.mpr c b
  have h2 : ¬ crossed (greatestR (lowers rs), leastR (uppers rs)) = true := by
    cases e1 : greatestR (lowers rs) with
    | none => exact fun q => nomatch q
    | some l =>
      cases e2 : leastR (uppers rs) with
      | none => exact fun q => nomatch q
      | some u =>
        intro q
        have q' : u < l := of_decide_eq_true q
        obtain ⟨r, hr, er⟩ := of_map (greatest_some e1).1
        obtain ⟨s, hs, es⟩ := of_map (least_some e2).1
        obtain ⟨r1, r2⟩ := List.mem_filter.mp hr
        obtain ⟨s1, s2⟩ := List.mem_filter.mp hs
        have a : l ≤ x := er ▸ div_le_to (num_neg.mp (of_decide_eq_true r2)) (h r r1)
        have b : x ≤ u := es ▸ le_div_to (num_pos.mp (of_decide_eq_true s2)) (h s s1)
        exact Rat.not_lt.mpr (Rat.le_trans a b) q'
  rw [if_neg h1, if_neg h2]
  exact ⟨_, rfl⟩
theorem between (L : List Rat) : ∀ U : List Rat, (∀ l ∈ L, ∀ u ∈ U, l ≤ u) → ∃ y : Rat, (∀ l ∈ L, l ≤ y) ∧ ∀ u ∈ U, y ≤ u := by
  induction L with
  | nil =>
    intro U _
    cases e : leastR U with
    | none => rw [least_nil] at e; subst e; exact ⟨0, (fun _ h => nomatch h), (fun _ h => nomatch h)⟩
    | some m => exact ⟨m, (fun _ h => nomatch h), (least_some e).2⟩
  | cons l L ih =>
    intro U h
    obtain ⟨y, h1, h2⟩ := ih U fun k hk => h k (List.mem_cons_of_mem _ hk)
    by_cases c : l ≤ y
    · refine ⟨y, fun k hk => ?_, h2⟩
      rcases of_cons hk with rfl | hk
      · exact c
      · exact h1 k hk
    · have c' : y < l := Rat.not_le.mp c
      refine ⟨l, fun k hk => ?_, fun u hu => h l List.mem_cons_self u hu⟩
      rcases of_cons hk with rfl | hk
      · exact Rat.le_refl
      · exact Rat.le_trans (h1 k hk) (Rat.le_of_lt c')
theorem comb_le {r s : Ln} {x y : Rat} (hr : 0 < r.2.1) (hs : s.2.1 < 0) (h1 : Holds r x y) (h2 : Holds s x y) : (comb r s).1 * x ≤ (comb r s).2.2 := by
  unfold Holds at h1 h2
  show (r.1 + shareOf r s * s.1) * x ≤ r.2.2 + shareOf r s * s.2.2
  have e : shareOf r s * s.2.1 = - r.2.1 := by
    have : r.2.1 / s.2.1 * s.2.1 = r.2.1 := Rat.div_mul_cancel (Rat.ne_of_lt hs)
    unfold shareOf
    grind
  have p : 0 ≤ shareOf r s := by
    apply Rat.not_lt.mp
    intro c
    have := Rat.mul_lt_mul_of_pos_right c (show (0:Rat) < -s.2.1 by grind)
    grind
  have q := Rat.mul_le_mul_of_nonneg_left h2 p
  have e2 : shareOf r s * (s.1 * x + s.2.1 * y) = shareOf r s * s.1 * x - r.2.1 * y := by grind
  rw [e2] at q
  generalize shareOf r s = t at *
  have e3 : (r.1 + t * s.1) * x = r.1 * x + t * s.1 * x := by grind
  rw [e3]
  generalize t * s.1 * x = A at *
  generalize t * s.2.2 = D at *
  generalize r.1 * x = E at *
  generalize r.2.1 * y = F at *
  clear e e2 e3
  grind
/-- there is another one for it -/
theorem rows_other {ls : List Ln} {x : Rat} (h : ∀ r ∈ rowsOf ls, r.1 * x ≤ r.2.2) : ∃ y, ∀ l ∈ ls, Holds l x y := by
  obtain ⟨y, h1, h2⟩ := between ((downs ls).map fun l => (l.2.2 - l.1 * x) / l.2.1) ((ups ls).map fun l => (l.2.2 - l.1 * x) / l.2.1) (by
    intro a ha b hb
    obtain ⟨s, hs, rfl⟩ := of_map ha
    obtain ⟨r, hr, rfl⟩ := of_map hb
    have hs' : s.2.1 < 0 := num_neg.mp (of_decide_eq_true (List.mem_filter.mp hs).2)
    have hr' : 0 < r.2.1 := num_pos.mp (of_decide_eq_true (List.mem_filter.mp hr).2)
    have c := h (comb r s) (List.mem_append_right _ (List.mem_flatMap.mpr ⟨r, hr, List.mem_map.mpr ⟨s, hs, rfl⟩⟩))
    have c' : (r.1 + shareOf r s * s.1) * x ≤ r.2.2 + shareOf r s * s.2.2 := c
    have e : shareOf r s * s.2.1 = - r.2.1 := by
      have : r.2.1 / s.2.1 * s.2.1 = r.2.1 := Rat.div_mul_cancel (Rat.ne_of_lt hs')
      unfold shareOf
      grind
    apply le_div_to hr'
    generalize hz : (s.2.2 - s.1 * x) / s.2.1 = z
    have ez : z * s.2.1 = s.2.2 - s.1 * x := by rw [← hz]; exact Rat.div_mul_cancel (Rat.ne_of_lt hs')
    have e2 : r.2.1 * z = - (shareOf r s * (s.2.2 - s.1 * x)) := by rw [← ez]; grind
    rw [e2]
    grind)
  refine ⟨y, fun l hl => ?_⟩
  unfold Holds
  by_cases c1 : l.2.1.num < 0
  · have c1' := num_neg.mp c1
    have := h1 _ (List.mem_map.mpr ⟨l, List.mem_filter.mpr ⟨hl, decide_eq_true c1⟩, rfl⟩)
    have := div_le_of c1' this
    grind
  · by_cases c2 : l.2.1.num > 0
    · have := h2 _ (List.mem_map.mpr ⟨l, List.mem_filter.mpr ⟨hl, decide_eq_true c2⟩, rfl⟩)
      have := le_of_div (num_pos.mp c2) this
      grind
    · have z : l.2.1.num = 0 := by omega
      have z' : l.2.1 = 0 := Rat.num_eq_zero.mp z
      have := h l (List.mem_append_left _ (List.mem_filter.mpr ⟨hl, decide_eq_true z⟩))
      rw [z', Rat.zero_mul, Rat.add_zero]
      exact this
theorem other_rows {ls : List Ln} {x y : Rat} (h : ∀ l ∈ ls, Holds l x y) : ∀ r ∈ rowsOf ls, r.1 * x ≤ r.2.2 := by
  intro r hr
  rcases of_append hr with hr | hr
  · obtain ⟨h1, h2⟩ := List.mem_filter.mp hr
    have z : r.2.1 = 0 := Rat.num_eq_zero.mp (of_decide_eq_true h2)
    have := h r h1
    unfold Holds at this
    rw [z, Rat.zero_mul, Rat.add_zero] at this
    exact this
  · obtain ⟨a, ha, hc⟩ := List.mem_flatMap.mp hr
    obtain ⟨b, hb, rfl⟩ := of_map hc
    obtain ⟨a1, a2⟩ := List.mem_filter.mp ha
    obtain ⟨b1, b2⟩ := List.mem_filter.mp hb
    exact comb_le (num_pos.mp (of_decide_eq_true a2)) (num_neg.mp (of_decide_eq_true b2)) (h a a1) (h b b1)
/-- the sample's slope is there -/
theorem sample_ok {ps : List Pl} {b : Bds} (h : boundsOf (rowsOf (ps.map (lineOf false))) = some b) :
    ∃ b', boundsOf (rowsOf ((ps ++ [planeOf 1 0 (nearOf b), planeOf (-1) 0 (-nearOf b)]).map (lineOf true))) = some b' := by
  obtain ⟨y, hy⟩ := rows_other (near_rows h)
  refine rows_bounds (x := y) (other_rows (y := nearOf b) fun l hl => ?_)
  obtain ⟨p, hp, rfl⟩ := of_map hl
  show ((p.2.1 : Rat)) * y + (p.1 : Rat) * nearOf b ≤ (p.2.2 : Rat)
  rcases of_append hp with hp | hp
  · have := hy _ (List.mem_map.mpr ⟨p, hp, rfl⟩)
    have t : (p.1 : Rat) * nearOf b + (p.2.1 : Rat) * y ≤ (p.2.2 : Rat) := this
    grind
  · rcases of_cons hp with rfl | hp
    · obtain ⟨t, _, e1, e2, e3⟩ := plane_pos (p := 1) (q := 0) (r := nearOf b) (.inl (by decide))
      rw [e1, e2, e3]
      grind
    · rcases of_cons hp with rfl | hp
      · obtain ⟨t, _, e1, e2, e3⟩ := plane_pos (p := -1) (q := 0) (r := -nearOf b) (.inl (by decide))
        rw [e1, e2, e3]
        grind
      · cases hp
end Rt
namespace Rt
open PySem L2 Evl
/-! ### data in the heap -/
mutual
/-- v is the data d: tuples of any kind, lists that stand in H -/
inductive Is (K : PySem.W.Frag) (H : Hp) : V → PyData → Prop
  | non : Is K H .non .none
  | bl (b : Bool) : Is K H (.bl b) (.bool b)
  | int (i : Int) : Is K H (.int i) (.int i)
  | str (x : Str) : Is K H (.str x) (.str x)
  | lst {a : Addr} {xs : List V} {ds : List PyData} : H a = some (.lst xs) → IsAll K H xs ds → Is K H (.ref a) (.list ds)
  | tup {a : Addr} {xs : List V} {ds : List PyData} : SqT K H a xs → IsAll K H xs ds → Is K H (.ref a) (.tuple ds)
inductive IsAll (K : PySem.W.Frag) (H : Hp) : List V → List PyData → Prop
  | nil : IsAll K H [] []
  | cons {v : V} {d : PyData} {vs : List V} {ds : List PyData} : Is K H v d → IsAll K H vs ds → IsAll K H (v :: vs) (d :: ds)
end
section
variable {K : PySem.W.Frag} {H H' : Hp} {v : V} {d : PyData} {vs xs : List V} {ds es : List PyData}
mutual
theorem Is.mono (e : Ex H H') : ∀ {v : V} {d : PyData}, Is K H v d → Is K H' v d
  | _, _, .non => .non
  | _, _, .bl b => .bl b
  | _, _, .int i => .int i
  | _, _, .str x => .str x
  | _, _, .lst h hs => .lst (e _ _ h) (IsAll.mono e hs)
  | _, _, .tup h hs => .tup (ex_t e h) (IsAll.mono e hs)
theorem IsAll.mono (e : Ex H H') : ∀ {vs : List V} {ds : List PyData}, IsAll K H vs ds → IsAll K H' vs ds
  | _, _, .nil => .nil
  | _, _, .cons h hs => .cons (Is.mono e h) (IsAll.mono e hs)
end
mutual
theorem Is.dp : ∀ {v : V} {d : PyData}, Is K H v d → Dp K H v d
  | _, _, .non => .non
  | _, _, .bl b => .bl b
  | _, _, .int i => .int i
  | _, _, .str x => .str x
  | _, _, .lst h hs => .lst (SqL.of h) (IsAll.dp hs)
  | _, _, .tup h hs => .tup h (IsAll.dp hs)
theorem IsAll.dp : ∀ {vs : List V} {ds : List PyData}, IsAll K H vs ds → DpAll K H vs ds
  | _, _, .nil => .nil
  | _, _, .cons h hs => .cons (Is.dp h) (IsAll.dp hs)
end
theorem IsAll.length : ∀ {vs : List V} {ds : List PyData}, IsAll K H vs ds → vs.length = ds.length
  | _, _, .nil => rfl
  | _, _, .cons _ hs => congrArg (· + 1) (IsAll.length hs)
theorem IsAll.get : ∀ {vs : List V} {ds : List PyData} {i : Nat} {d : PyData}, IsAll K H vs ds → ds[i]? = some d → ∃ v, vs[i]? = some v ∧ Is K H v d
  | _, _, _, _, .nil, h => by simp at h
  | _, _, 0, _, .cons h _, e => by simp at e; subst e; exact ⟨_, rfl, h⟩
  | _, _, i + 1, _, .cons _ hs, e => IsAll.get (i := i) hs (by simpa using e)
theorem IsAll.at : ∀ {vs : List V} {ds : List PyData} {i : Nat} {v : V}, IsAll K H vs ds → vs[i]? = some v → ∃ d, ds[i]? = some d ∧ Is K H v d
  | _, _, _, _, .nil, h => by simp at h
  | _, _, 0, _, .cons h _, e => by simp at e; subst e; exact ⟨_, rfl, h⟩
  | _, _, i + 1, _, .cons _ hs, e => IsAll.at (i := i) hs (by simpa using e)
theorem IsAll.append : ∀ {vs ws : List V} {ds es : List PyData}, IsAll K H vs ds → IsAll K H ws es → IsAll K H (vs ++ ws) (ds ++ es)
  | _, _, _, _, .nil, g => g
  | _, _, _, _, .cons h hs, g => .cons h (IsAll.append hs g)
theorem IsAll.take : ∀ {vs : List V} {ds : List PyData} (n : Nat), IsAll K H vs ds → IsAll K H (vs.take n) (ds.take n)
  | _, _, 0, _ => .nil
  | _, _, _ + 1, .nil => .nil
  | _, _, n + 1, .cons h hs => .cons h (IsAll.take n hs)
theorem Is.tupIn (h : Is K H v (.tuple ds)) : ∃ a xs, v = .ref a ∧ SqT K H a xs ∧ IsAll K H xs ds := by
  cases h with
  | tup h hs => exact ⟨_, _, rfl, h, hs⟩
theorem Is.lstIn (h : Is K H v (.list ds)) : ∃ a xs, v = .ref a ∧ H a = some (.lst xs) ∧ IsAll K H xs ds := by
  cases h with
  | lst h hs => exact ⟨_, _, rfl, h, hs⟩
theorem Is.intIn {i : Int} (h : Is K H v (.int i)) : v = .int i := by cases h; rfl
theorem Is.strIn {i : Str} (h : Is K H v (.str i)) : v = .str i := by cases h; rfl
theorem Is.blIn {b : Bool} (h : Is K H v (.bool b)) : v = .bl b := by cases h; rfl
theorem Is.nonIn (h : Is K H v .none) : v = .non := by cases h; rfl
def isNone : PyData → Bool
  | .none => true
  | _ => false
theorem Is.isN (h : Is K H v d) : decide (v = .non) = isNone d := by
  cases h <;> rfl
end
/-! ### what is seen (G) of the heap (H) -/
/-- from G within H to G' within H': what is newly seen is new -/
structure Ext (G H G' H' : Hp) : Prop where
  g : Ex G G'
  h : Ex H H'
  sub : Ex G' H'
  new : ∀ a, G a = none → G' a ≠ none → H a = none
theorem Ext.refl {G H : Hp} (s : Ex G H) : Ext G H G H := ⟨Ex.refl _, Ex.refl _, s, fun a h1 h2 => absurd h1 h2⟩
theorem Ext.trans {G H G1 H1 G2 H2 : Hp} (a : Ext G H G1 H1) (b : Ext G1 H1 G2 H2) : Ext G H G2 H2 :=
  ⟨a.g.trans b.g, a.h.trans b.h, b.sub, fun x h1 h2 => by
    cases q : G1 x with
    | none => exact fresh_back a.h (b.new x q h2)
    | some o => exact a.new x h1 (by rw [q]; exact fun z => nomatch z)⟩
/-- a new object that is seen -/
theorem Ext.upd {G H : Hp} {p : Addr} {o : HO} (s : Ex G H) (h : H p = none) : Ext G H (upd G p o) (upd H p o) := by
  refine ⟨Ex.new (fresh_back s h), Ex.new h, fun b u e => ?_, fun a h1 h2 => ?_⟩
  · by_cases hb : b = p
    · subst hb; rw [upd_same] at e ⊢; exact e
    · rw [upd_ne hb] at e ⊢; exact s _ _ e
  · by_cases ha : a = p
    · subst ha; exact h
    · rw [upd_ne ha] at h2; exact absurd h1 h2
theorem Ext.add {G0 H0 G H : Hp} {p : Addr} {o : HO} (t : Ext G0 H0 G H) (h : H p = none) : Ext G0 H0 (L2.upd G p o) (L2.upd H p o) := t.trans (Ext.upd t.sub h)
/-- an object of ours that is not seen is changed -/
theorem Ext.mut {G0 H0 G H : Hp} {p : Addr} {o : HO} (t : Ext G0 H0 G H) (h0 : H0 p = none) (hg : G p = none) : Ext G0 H0 G (L2.upd H p o) :=
  ⟨t.g, Ex.mut t.h h0, fun b u e => by
    have : b ≠ p := fun q => by rw [q, hg] at e; cases e
    rw [upd_ne this]; exact t.sub _ _ e, t.new⟩
/-- it is shown -/
theorem Ext.show {G0 H0 G H : Hp} {p : Addr} {o : HO} (t : Ext G0 H0 G H) (h0 : H0 p = none) (hg : G p = none) (h : H p = some o) : Ext G0 H0 (L2.upd G p o) H := by
  refine ⟨t.g.trans (Ex.new hg), t.h, fun b u e => ?_, fun a h1 h2 => ?_⟩
  · by_cases hb : b = p
    · subst hb; rw [upd_same] at e; rw [h]; exact e
    · rw [upd_ne hb] at e; exact t.sub _ _ e
  · by_cases ha : a = p
    · subst ha; exact h0
    · rw [upd_ne ha] at h2; exact t.new a h1 h2
/-- what is not seen stays unseen -/
theorem Ext.unseen {G H G' H' : Hp} {p : Addr} {o : HO} (t : Ext G H G' H') (hg : G p = none) (h : H p = some o) : G' p = none := by
  cases q : G' p with
  | none => rfl
  | some u =>
    have := t.new p hg (by rw [q]; exact fun z => nomatch z)
    rw [h] at this; cases this
/-! ### what an expression is worth -/
def EvD (K : PySem.W.Frag) (te : TE) (σ : L2.St) (G : Hp) (d : PyData) : Prop := ∀ G1 H1, Ex G G1 → Ex G1 H1 → ∀ Q : VK, (∀ v G2 H2, Ext G1 H1 G2 H2 → Is K G2 v d → Q v H2) → te σ H1 Q
def EvDs (K : PySem.W.Frag) (ta : TA) (σ : L2.St) (G : Hp) (ds : List PyData) : Prop := ∀ G1 H1, Ex G G1 → Ex G1 H1 → ∀ Q : List V → Hp → Prop, (∀ vs G2 H2, Ext G1 H1 G2 H2 → IsAll K G2 vs ds → Q vs H2) → ta σ H1 Q
def EvB (t : TT) (σ : L2.St) (G : Hp) (b : Bool) : Prop := ∀ G1 H1, Ex G G1 → Ex G1 H1 → ∀ Q : Bool → Hp → Prop, (∀ G2 H2, Ext G1 H1 G2 H2 → Q b H2) → t σ H1 Q
section
variable {K : PySem.W.Frag} {G G' : Hp} {v : V} {d : PyData} {vs xs : List V} {ds es : List PyData} {σ : L2.St} {te ta tb : TE} {tl tr : TA} {t u : TT}
theorem EvD.mono (e : Ex G G') (h : EvD K te σ G d) : EvD K te σ G' d := fun G1 H1 e1 => h G1 H1 (e.trans e1)
theorem EvD.to {d' : PyData} (h : EvD K te σ G d) (e : d = d') : EvD K te σ G d' := e ▸ h
theorem EvB.to {b b' : Bool} (h : EvB t σ G b) (e : b = b') : EvB t σ G b' := e ▸ h
theorem evd_var {i : Nat} (hs : σ[i]? = some (some v)) (h : Is K G v d) : EvD K (tVar i) σ G d := fun G1 H1 e1 s Q q => ⟨v, hs, q v G1 H1 (Ext.refl s) (h.mono e1)⟩
theorem evd_int {i : Int} : EvD K (tC (.int i)) σ G (.int i) := fun G1 H1 _ s Q q => q _ G1 H1 (Ext.refl s) (.int i)
theorem evd_str {x : Str} : EvD K (tC (.str x)) σ G (.str x) := fun G1 H1 _ s Q q => q _ G1 H1 (Ext.refl s) (.str x)
theorem evd_non : EvD K (tC .non) σ G .none := fun G1 H1 _ s Q q => q _ G1 H1 (Ext.refl s) .non
theorem evd_bl {b : Bool} : EvD K (tC (.bl b)) σ G (.bool b) := fun G1 H1 _ s Q q => q _ G1 H1 (Ext.refl s) (.bl b)
theorem evd_cst {a : Addr} (h : ∀ G, Is K G (.ref a) d) : EvD K (tC (.ref a)) σ G d := fun G1 H1 _ s Q q => q _ G1 H1 (Ext.refl s) (h G1)
theorem es_nil : EvDs K tNil σ G [] := fun G1 H1 _ s Q q => q [] G1 H1 (Ext.refl s) .nil
theorem es_cons (h : EvD K ta σ G d) (hr : EvDs K tr σ G ds) : EvDs K (tCons ta tr) σ G (d :: ds) := fun G1 H1 e1 s Q q =>
  h G1 H1 e1 s _ fun v G2 H2 e2 h2 => hr G2 H2 (e1.trans e2.g) e2.sub _ fun vs G3 H3 e3 h3 => q (v :: vs) G3 H3 (e2.trans e3) (.cons (h2.mono e3.g) h3)
theorem evd_tup (h : EvDs K tl σ G ds) (hl : ds.length ≤ 100000 := by simp) : EvD K (tTup tl) σ G (.tuple ds) := fun G1 H1 e1 s Q q =>
  h G1 H1 e1 s _ fun vs G2 H2 e2 h2 => ⟨sz_of (by rw [h2.length]; exact hl), fun p hp => q _ _ _ (e2.add hp) (.tup (SqT.of upd_same) (h2.mono (Ext.upd e2.sub hp).g))⟩
theorem evd_lst (h : EvDs K tl σ G ds) (hl : ds.length ≤ 100000 := by simp) : EvD K (tLst tl) σ G (.list ds) := fun G1 H1 e1 s Q q =>
  h G1 H1 e1 s _ fun vs G2 H2 e2 h2 => ⟨sz_of (by rw [h2.length]; exact hl), fun p hp => q _ _ _ (e2.add hp) (.lst upd_same (h2.mono (Ext.upd e2.sub hp).g))⟩
/-- an operation on two values -/
theorem evd_op {r : R2} {a b c : PyData} (ha : EvD K ta σ G a) (hb : EvD K tb σ G b) (hr : ∀ x y G1 H1, Ex G1 H1 → Is K G1 x a → Is K G1 y b → ∀ Q : VK, (∀ v G2 H2, Ext G1 H1 G2 H2 → Is K G2 v c → Q v H2) → r x y H1 Q) : EvD K (tOp r ta tb) σ G c :=
  fun G1 H1 e1 s Q q => ha G1 H1 e1 s _ fun v G2 H2 e2 h2 => hb G2 H2 (e1.trans e2.g) e2.sub _ fun w G3 H3 e3 h3 => hr v w G3 H3 e3.sub (h2.mono e3.g) h3 Q fun z G4 H4 e4 h4 => q z G4 H4 ((e2.trans e3).trans e4) h4
/-! ### subscripts -/
theorem atI_is {i : Int} (h : IsAll K G vs ds) (e : atI ds i = some d) : ∃ v, atI vs i = some v ∧ Is K G v d := by
  unfold atI at e ⊢
  rw [h.length]
  cases q : ixN ds.length i with
  | none => (rw [q] at e; cases e)
  | some j => rw [q] at e; exact h.get e
theorem evd_ixT {i : Int} (ha : EvD K ta σ G (.tuple ds)) (hb : EvD K tb σ G (.int i)) (e : atI ds i = some d) : EvD K (tOp (rIx K) ta tb) σ G d :=
  evd_op ha hb fun x y G1 H1 s h2 h3 Q q => by
    obtain ⟨a, xs, rfl, hx, hs⟩ := h2.tupIn
    obtain rfl := h3.intIn
    obtain ⟨y, ey, hy⟩ := atI_is hs e
    exact .inr (.inl ⟨a, xs, i, y, rfl, rfl, ex_t s hx, ey, q y G1 H1 (Ext.refl s) hy⟩)
theorem evd_ixL {i : Int} (ha : EvD K ta σ G (.list ds)) (hb : EvD K tb σ G (.int i)) (e : atI ds i = some d) : EvD K (tOp (rIx K) ta tb) σ G d :=
  evd_op ha hb fun x y G1 H1 s h2 h3 Q q => by
    obtain ⟨a, xs, rfl, hx, hs⟩ := h2.lstIn
    obtain rfl := h3.intIn
    obtain ⟨y, ey, hy⟩ := atI_is hs e
    exact .inl ⟨a, xs, i, y, rfl, rfl, SqL.of (s _ _ hx), ey, q y G1 H1 (Ext.refl s) hy⟩
/-- xs[:n] -/
theorem evd_cut {n : Nat} (ha : EvD K ta σ G (.list ds)) (hb : EvD K tb σ G (.int (n : Int))) (hn : n ≤ ds.length) : EvD K (tSl (rSlL K) ta tNoPart (tPart tb)) σ G (.list (ds.take n)) := fun G1 H1 e1 s Q q =>
  ha G1 H1 e1 s _ fun v G2 H2 e2 h2 => hb G2 H2 (e1.trans e2.g) e2.sub _ fun w G3 H3 e3 h3 => by
    obtain ⟨a, xs, rfl, hx, hs⟩ := h2.lstIn
    obtain rfl := h3.intIn
    refine ⟨n, rfl, a, xs, rfl, SqL.of (e3.h _ _ (e2.sub _ _ hx)), fun p hp => q _ _ _ ((e2.trans e3).add hp) (.lst upd_same ?_)⟩
    have : cutV xs none (some (n : Int)) = xs.take n := by
      unfold cutV
      rw [HT.sIx_none, HT.sIx_nat, List.drop_zero, Nat.sub_zero, Nat.min_eq_left (by rw [hs.length]; exact hn)]
    rw [this]
    exact ((hs.take n).mono e3.g).mono (Ext.upd e3.sub hp).g
end
end Rt
namespace Rt
open PySem L2 Evl
/-! ### operators -/
def CDivX (_ j : Int) : Prop := j ≠ 0 ∧ j.natAbs.log2 < 9000
section
variable {X : Cx}
/-- // by any divisor but 0, of at most 9000 bits -/
theorem op_fdivX : OpR X (binaryOp .FloorDiv) (rI CDivX fun i j => .int (i.fdiv j)) :=
  opI fun i j _ _ _ _ _ hc q => PyProof.Rows.floordiv_int hc.1 q (.inl (PyProof.noPylong_of_log2 hc.2))
def rAddU (K : PySem.W.Frag) : R2 := fun x y H Q => rI0 (fun i j => .int (i + j)) x y H Q ∨ (rCat x y H Q ∨ rCatA K x y H Q)
theorem either {f : Value → Value → Sem Value} {r r' : R2} (h : OpR X f r) (h' : OpR X f r') : OpR X f (fun x y H Q => r x y H Q ∨ r' x y H Q) := OpR.or h h'
theorem op_addU : OpR X (binaryOp .Add) (rAddU X.K) := either op_add (either op_cat op_catA)
def rEqU (K : PySem.W.Frag) : R2 := fun x y H Q => rEq x y H Q ∨ rEqD K x y H Q
def rNeU (K : PySem.W.Frag) : R2 := fun x y H Q => rNe x y H Q ∨ rNeD K x y H Q
theorem op_eqU (hu : X.A.units + 64 < cLine) : OpR X (compareOp .Eq) (rEqU X.K) := either op_eq (op_eqD hu)
theorem op_neU (hu : X.A.units + 64 < cLine) : OpR X (compareOp .NotEq) (rNeU X.K) := either op_ne (op_neD hu)
def rIsNo : R2 := fun x y H Q => y = .non ∧ Q (.bl (decide (x = .non))) H
def rNotNo : R2 := fun x y H Q => y = .non ∧ Q (.bl (!decide (x = .non))) H
theorem op_isNo : OpR X (compareOp .Is) rIsNo := op_isN
theorem op_notNo : OpR X (compareOp .IsNot) rNotNo := op_notN
def rSubI : R2 := rI0 fun i j => .int (i - j)
def rMulI : R2 := rI CMulW fun i j => .int (i * j)
def rDivI : R2 := rI CDivX fun i j => .int (i.fdiv j)
def rModI : R2 := rI (fun _ j => 0 < j) fun i j => .int (i % j)
def rPowI : R2 := rI CPow fun i j => .int (i ^ j.toNat)
def rLtI : R2 := rI0 fun i j => .bl (decide (i < j))
def rGtI : R2 := rI0 fun i j => .bl (decide (j < i))
def rGeI : R2 := rI0 fun i j => .bl (decide (j ≤ i))
theorem op_subI : OpR X (binaryOp .Sub) rSubI := op_sub
theorem op_mulI : OpR X (binaryOp .Mult) rMulI := op_mulW
theorem op_divI : OpR X (binaryOp .FloorDiv) rDivI := op_fdivX
theorem op_modI : OpR X (binaryOp .Mod) rModI := op_mod
theorem op_powI : OpR X (binaryOp .Pow) rPowI := op_pow
theorem op_ltI : OpR X (compareOp .Lt) rLtI := op_lt
theorem op_gtI : OpR X (compareOp .Gt) rGtI := op_gt
theorem op_geI : OpR X (compareOp .GtE) rGeI := op_ge
def rNegI : V → Hp → VK → Prop := rU fun i => .int (-i)
theorem un_negI : UnR X (unaryOp .USub) rNegI := un_neg
def rAbs : List V → Hp → VK → Prop := fun xs H Q => ∃ i, xs = [.int i] ∧ Q (.int (if i < 0 then -i else i)) H
theorem call_absI : CallR X (.builtin "abs") rAbs := call_abs
def rToI : List V → Hp → VK → Prop := fun xs H Q => (∃ i, xs = [.int i] ∧ Q (.int i) H) ∨ ∃ k, xs = [.bl k] ∧ Q (.int (if k then 1 else 0)) H
theorem call_toI : CallR X (.type "int") rToI := call_int1
def rLen (K : PySem.W.Frag) : List V → Hp → VK → Prop := fun xs H Q => ∃ p ys, xs = [.ref p] ∧ (SqL K H p ys ∨ SqT K H p ys) ∧ Q (.int ys.length) H
theorem call_lenQ : CallR X (.builtin "len") (rLen X.K) := call_len_seq
/-- a value's truth, as a test -/
def tTr (K : PySem.W.Frag) (ta : TE) : TT := fun σ H Q => ta σ H fun x H' => ∃ k, TruV K x H' k ∧ Q k H'
theorem pt_tr {a : Expr} {ta : TE} (ha : PE X a ta) (he : ∀ whole, isTrue a X.env whole = (do let v ← whole; standAt a.pos; holding [v] (truthy v)) := by intro _; rfl) : PT X a (tTr X.K ta) := pt_truth ha he
end
section
variable {K : PySem.W.Frag} {G G' H : Hp} {v : V} {d e : PyData} {vs xs : List V} {ds es : List PyData} {σ : L2.St} {te ta tb : TE} {tl tr : TA} {t u : TT}
/-- a rule for two ints -/
theorem evd_ii {r : R2} {i j : Int} {c : PyData} {z : V} (ha : EvD K ta σ G (.int i)) (hb : EvD K tb σ G (.int j)) (hz : ∀ G, Is K G z c) (hr : ∀ H (Q : VK), Q z H → r (.int i) (.int j) H Q) : EvD K (tOp r ta tb) σ G c :=
  evd_op ha hb fun x y G1 H1 s hx hy Q q => by
    obtain rfl := hx.intIn
    obtain rfl := hy.intIn
    exact hr _ _ (q _ _ _ (Ext.refl s) (hz _))
theorem evd_add {i j : Int} (ha : EvD K ta σ G (.int i)) (hb : EvD K tb σ G (.int j)) : EvD K (tOp (rAddU K) ta tb) σ G (.int (i + j)) := evd_ii ha hb (fun _ => .int _) fun H Q q => .inl ⟨i, j, rfl, rfl, q⟩
theorem evd_sub {i j : Int} (ha : EvD K ta σ G (.int i)) (hb : EvD K tb σ G (.int j)) : EvD K (tOp rSubI ta tb) σ G (.int (i - j)) := evd_ii ha hb (fun _ => .int _) fun H Q q => ⟨i, j, rfl, rfl, q⟩
theorem evd_mul {i j : Int} (ha : EvD K ta σ G (.int i)) (hb : EvD K tb σ G (.int j)) (hc : CMulW i j) : EvD K (tOp rMulI ta tb) σ G (.int (i * j)) := evd_ii ha hb (fun _ => .int _) fun H Q q => ⟨i, j, rfl, rfl, hc, q⟩
theorem evd_div {i j : Int} (ha : EvD K ta σ G (.int i)) (hb : EvD K tb σ G (.int j)) (hc : CDivX i j) : EvD K (tOp rDivI ta tb) σ G (.int (i.fdiv j)) := evd_ii ha hb (fun _ => .int _) fun H Q q => ⟨i, j, rfl, rfl, hc, q⟩
theorem evd_mod {i j : Int} (ha : EvD K ta σ G (.int i)) (hb : EvD K tb σ G (.int j)) (hc : 0 < j) : EvD K (tOp rModI ta tb) σ G (.int (i % j)) := evd_ii ha hb (fun _ => .int _) fun H Q q => ⟨i, j, rfl, rfl, hc, q⟩
theorem evd_pow {i j : Int} (ha : EvD K ta σ G (.int i)) (hb : EvD K tb σ G (.int j)) (hc : CPow i j) : EvD K (tOp rPowI ta tb) σ G (.int (i ^ j.toNat)) := evd_ii ha hb (fun _ => .int _) fun H Q q => ⟨i, j, rfl, rfl, hc, q⟩
theorem evd_lt {i j : Int} (ha : EvD K ta σ G (.int i)) (hb : EvD K tb σ G (.int j)) : EvD K (tOp rLtI ta tb) σ G (.bool (decide (i < j))) := evd_ii ha hb (fun _ => .bl _) fun H Q q => ⟨i, j, rfl, rfl, q⟩
theorem evd_gt {i j : Int} (ha : EvD K ta σ G (.int i)) (hb : EvD K tb σ G (.int j)) : EvD K (tOp rGtI ta tb) σ G (.bool (decide (j < i))) := evd_ii ha hb (fun _ => .bl _) fun H Q q => ⟨i, j, rfl, rfl, q⟩
theorem evd_ge {i j : Int} (ha : EvD K ta σ G (.int i)) (hb : EvD K tb σ G (.int j)) : EvD K (tOp rGeI ta tb) σ G (.bool (decide (j ≤ i))) := evd_ii ha hb (fun _ => .bl _) fun H Q q => ⟨i, j, rfl, rfl, q⟩
theorem decI {i j : Int} : decide (V.int i = V.int j) = decide (i = j) := decide_eq_decide.mpr ⟨fun e => V.int.inj e, fun e => by rw [e]⟩
theorem decS {i j : Str} : decide (V.str i = V.str j) = decide (i = j) := decide_eq_decide.mpr ⟨fun e => V.str.inj e, fun e => by rw [e]⟩
theorem decB {i j : Bool} : decide (V.bl i = V.bl j) = decide (i = j) := decide_eq_decide.mpr ⟨fun e => V.bl.inj e, fun e => by rw [e]⟩
theorem evd_eqI {i j : Int} (ha : EvD K ta σ G (.int i)) (hb : EvD K tb σ G (.int j)) : EvD K (tOp (rEqU K) ta tb) σ G (.bool (decide (i = j))) := evd_ii ha hb (fun _ => .bl _) fun H Q q => .inl ⟨rfl, by rw [decI]; exact q⟩
theorem evd_neI {i j : Int} (ha : EvD K ta σ G (.int i)) (hb : EvD K tb σ G (.int j)) : EvD K (tOp (rNeU K) ta tb) σ G (.bool (!decide (i = j))) := evd_ii ha hb (fun _ => .bl _) fun H Q q => .inl ⟨rfl, by rw [decI]; exact q⟩
theorem evd_eqS {i j : Str} (ha : EvD K ta σ G (.str i)) (hb : EvD K tb σ G (.str j)) : EvD K (tOp (rEqU K) ta tb) σ G (.bool (decide (i = j))) :=
  evd_op ha hb fun x y G1 H1 s hx hy Q q => by
    obtain rfl := hx.strIn
    obtain rfl := hy.strIn
    exact .inl ⟨rfl, by rw [decS]; exact q _ _ _ (Ext.refl s) (.bl _)⟩
theorem evd_neS {i j : Str} (ha : EvD K ta σ G (.str i)) (hb : EvD K tb σ G (.str j)) : EvD K (tOp (rNeU K) ta tb) σ G (.bool (!decide (i = j))) :=
  evd_op ha hb fun x y G1 H1 s hx hy Q q => by
    obtain rfl := hx.strIn
    obtain rfl := hy.strIn
    exact .inl ⟨rfl, by rw [decS]; exact q _ _ _ (Ext.refl s) (.bl _)⟩
theorem evd_neB {i j : Bool} (ha : EvD K ta σ G (.bool i)) (hb : EvD K tb σ G (.bool j)) : EvD K (tOp (rNeU K) ta tb) σ G (.bool (!decide (i = j))) :=
  evd_op ha hb fun x y G1 H1 s hx hy Q q => by
    obtain rfl := hx.blIn
    obtain rfl := hy.blIn
    exact .inl ⟨rfl, by rw [decB]; exact q _ _ _ (Ext.refl s) (.bl _)⟩
theorem evd_eqD {a b : PyData} (ha : EvD K ta σ G a) (hb : EvD K tb σ G b) (sa : SeqAt.shaped a = true) (sb : SeqAt.shaped b = true) : EvD K (tOp (rEqU K) ta tb) σ G (.bool (PyData.eqv a b)) :=
  evd_op ha hb fun x y G1 H1 s hx hy Q q => .inr ⟨a, b, (hx.mono s).dp, (hy.mono s).dp, sa, sb, q _ _ _ (Ext.refl s) (.bl _)⟩
theorem evd_isN (ha : EvD K ta σ G d) : EvD K (tOp rIsNo ta (tC .non)) σ G (.bool (isNone d)) :=
  evd_op ha evd_non fun x y G1 H1 s hx hy Q q => by
    obtain rfl := hy.nonIn
    exact ⟨rfl, by rw [hx.isN]; exact q _ _ _ (Ext.refl s) (.bl _)⟩
theorem evd_notN (ha : EvD K ta σ G d) : EvD K (tOp rNotNo ta (tC .non)) σ G (.bool (!isNone d)) :=
  evd_op ha evd_non fun x y G1 H1 s hx hy Q q => by
    obtain rfl := hy.nonIn
    exact ⟨rfl, by rw [hx.isN]; exact q _ _ _ (Ext.refl s) (.bl _)⟩
theorem evd_neg {i : Int} (ha : EvD K ta σ G (.int i)) : EvD K (tUn rNegI ta) σ G (.int (-i)) := fun G1 H1 e1 s Q q =>
  ha G1 H1 e1 s _ fun v G2 H2 e2 h2 => by
    obtain rfl := h2.intIn
    exact ⟨i, rfl, q _ _ _ e2 (.int _)⟩
theorem evd_catL (ha : EvD K ta σ G (.list ds)) (hb : EvD K tb σ G (.list es)) (hz : ds.length + es.length ≤ 100000 := by simp) : EvD K (tOp (rAddU K) ta tb) σ G (.list (ds ++ es)) :=
  evd_op ha hb fun x y G1 H1 s hx hy Q q => by
    obtain ⟨a, xs, rfl, h1, k1⟩ := hx.lstIn
    obtain ⟨b, ys, rfl, h2, k2⟩ := hy.lstIn
    exact .inr (.inl ⟨a, b, xs, ys, rfl, rfl, s _ _ h1, s _ _ h2, sz_of (by rw [k1.length, k2.length]; exact hz), fun p hp => q _ _ _ (Ext.upd s hp) (.lst upd_same ((k1.append k2).mono (Ext.upd s hp).g))⟩)
theorem evd_catT (ha : EvD K ta σ G (.tuple ds)) (hb : EvD K tb σ G (.tuple es)) (hz : ds.length + es.length ≤ 100000 := by simp) : EvD K (tOp (rAddU K) ta tb) σ G (.tuple (ds ++ es)) :=
  evd_op ha hb fun x y G1 H1 s hx hy Q q => by
    obtain ⟨a, xs, rfl, h1, k1⟩ := hx.tupIn
    obtain ⟨b, ys, rfl, h2, k2⟩ := hy.tupIn
    refine .inr (.inr ⟨a, b, xs, ys, rfl, rfl, ex_t s h1, ex_t s h2, sz_of (by rw [k1.length, k2.length]; exact hz), fun e => ?_, fun _ e => ?_, fun _ _ p hp => q _ _ _ (Ext.upd s hp) (.tup (SqT.of upd_same) ((k1.append k2).mono (Ext.upd s hp).g))⟩)
    · subst e
      cases k1
      exact q _ _ _ (Ext.refl s) (.tup h2 k2)
    · subst e
      cases k2
      rw [List.append_nil] at q
      exact q _ _ _ (Ext.refl s) (.tup h1 k1)
/-! ### tests -/
theorem eb_val {b : Bool} (h : EvD K te σ G (.bool b)) : EvB (tTest te) σ G b := fun G1 H1 e1 s Q q => h G1 H1 e1 s _ fun v G2 H2 e2 h2 => ⟨b, h2.blIn, q G2 H2 e2⟩
theorem eb_valB {b : Bool} (h : EvD K te σ G (.bool b)) : EvB (tB te) σ G b := fun G1 H1 e1 s Q q => h G1 H1 e1 s _ fun v G2 H2 e2 h2 => ⟨b, h2.blIn, q G2 H2 e2⟩
theorem eb_yes : EvB tYes σ G true := fun G1 H1 e1 s Q q => q G1 H1 (Ext.refl s)
theorem eb_and {a b : Bool} (h1 : EvB t σ G a) (h2 : a = true → EvB u σ G b) : EvB (tAnd t u) σ G (a && b) := fun G1 H1 e1 s Q q => h1 G1 H1 e1 s _ fun G2 H2 e2 => by
  cases a with
  | true => exact iteT (h2 rfl G2 H2 (e1.trans e2.g) e2.sub _ fun G3 H3 e3 => q G3 H3 (e2.trans e3))
  | false => exact iteF (q _ _ e2)
theorem eb_or {a b : Bool} (h1 : EvB t σ G a) (h2 : a = false → EvB u σ G b) : EvB (tOr t u) σ G (a || b) := fun G1 H1 e1 s Q q => h1 G1 H1 e1 s _ fun G2 H2 e2 => by
  cases a with
  | false => exact iteF (h2 rfl G2 H2 (e1.trans e2.g) e2.sub _ fun G3 H3 e3 => q G3 H3 (e2.trans e3))
  | true => exact iteT (q _ _ e2)
theorem eb_not {a : Bool} (h1 : EvB t σ G a) : EvB (tNot t) σ G (!a) := fun G1 H1 e1 s Q q => h1 G1 H1 e1 s _ fun G2 H2 e2 => q G2 H2 e2
theorem evd_andV {a b : Bool} (h1 : EvD K ta σ G (.bool a)) (h2 : a = true → EvD K tb σ G (.bool b)) : EvD K (tAndV ta tb) σ G (.bool (a && b)) := fun G1 H1 e1 s Q q =>
  h1 G1 H1 e1 s _ fun v G2 H2 e2 g => by
    obtain rfl := g.blIn
    refine ⟨a, rfl, ?_⟩
    cases a with
    | true => exact iteT (h2 rfl G2 H2 (e1.trans e2.g) e2.sub _ fun w G3 H3 e3 g3 => q w G3 H3 (e2.trans e3) g3)
    | false => exact iteF (q _ _ _ e2 (.bl _))
theorem evd_orV {a b : Bool} (h1 : EvD K ta σ G (.bool a)) (h2 : a = false → EvD K tb σ G (.bool b)) : EvD K (tOrV ta tb) σ G (.bool (a || b)) := fun G1 H1 e1 s Q q =>
  h1 G1 H1 e1 s _ fun v G2 H2 e2 g => by
    obtain rfl := g.blIn
    refine ⟨a, rfl, ?_⟩
    cases a with
    | false => exact iteF (h2 rfl G2 H2 (e1.trans e2.g) e2.sub _ fun w G3 H3 e3 g3 => q w G3 H3 (e2.trans e3) g3)
    | true => exact iteT (q _ _ _ e2 (.bl _))
theorem evd_notV {a : Bool} (h1 : EvD K ta σ G (.bool a)) : EvD K (tNotV ta) σ G (.bool (!a)) := fun G1 H1 e1 s Q q =>
  h1 G1 H1 e1 s _ fun v G2 H2 e2 g => ⟨a, g.blIn, q _ _ _ e2 (.bl _)⟩
/-- the truth of a list -/
theorem eb_truL (h : EvD K te σ G (.list ds)) : EvB (tTr K te) σ G (!ds.isEmpty) := fun G1 H1 e1 s Q q =>
  h G1 H1 e1 s _ fun v G2 H2 e2 g => by
    obtain ⟨a, xs, rfl, hx, hs⟩ := g.lstIn
    refine ⟨!ds.isEmpty, .inl ⟨xs, SqL.of (e2.sub _ _ hx), ?_⟩, q G2 H2 e2⟩
    have := hs.length
    cases xs <;> cases ds <;> simp_all
/-! ### calls -/
theorem evd_cb {r : List V → Hp → VK → Prop} {tl : TA} (h : EvDs K tl σ G ds) (hr : ∀ vs G1 H1, Ex G1 H1 → IsAll K G1 vs ds → ∀ Q : VK, (∀ v G2 H2, Ext G1 H1 G2 H2 → Is K G2 v d → Q v H2) → r vs H1 Q) : EvD K (tCB r tl) σ G d := fun G1 H1 e1 s Q q =>
  h G1 H1 e1 s _ fun vs G2 H2 e2 h2 => hr vs G2 H2 e2.sub h2 Q fun v G3 H3 e3 h3 => q v G3 H3 (e2.trans e3) h3
theorem evd_abs {i : Int} (h : EvD K ta σ G (.int i)) : EvD K (tCB rAbs (tCons ta tNil)) σ G (.int (i.natAbs : Int)) :=
  evd_cb (es_cons h es_nil) fun vs G1 H1 s hv Q q => by
    cases hv with
    | cons h1 h2 =>
      cases h2
      obtain rfl := h1.intIn
      refine ⟨i, rfl, ?_⟩
      have : (if i < 0 then -i else i) = (i.natAbs : Int) := by split <;> omega
      rw [this]; exact q _ _ _ (Ext.refl s) (.int _)
theorem evd_toInt {i : Int} (h : EvD K ta σ G (.int i)) : EvD K (tCB rToI (tCons ta tNil)) σ G (.int i) :=
  evd_cb (es_cons h es_nil) fun vs G1 H1 s hv Q q => by
    cases hv with
    | cons h1 h2 =>
      cases h2
      obtain rfl := h1.intIn
      exact .inl ⟨i, rfl, q _ _ _ (Ext.refl s) (.int _)⟩
theorem evd_len (h : EvD K ta σ G (.list ds)) : EvD K (tCB (rLen K) (tCons ta tNil)) σ G (.int (ds.length : Int)) :=
  evd_cb (es_cons h es_nil) fun vs G1 H1 s hv Q q => by
    cases hv with
    | cons h1 h2 =>
      cases h2
      obtain ⟨a, xs, rfl, hx, hs⟩ := h1.lstIn
      refine ⟨a, xs, rfl, .inl (SqL.of (s _ _ hx)), ?_⟩
      rw [hs.length]; exact q _ _ _ (Ext.refl s) (.int _)
end
/-! ### the promise of a def that changes nothing -/
abbrev Rl := List PyData → PyData → Prop
/-- what is seen of the arguments is enough; the answer is seen, and new where it is not theirs -/
def spR (K : PySem.W.Frag) (R : Rl) : Sp := fun vs H Q _ => ∃ ds r G, Ex G H ∧ IsAll K G vs ds ∧ R ds r ∧ ∀ v G' H', Ext G H G' H' → Is K G' v r → Q v H'
theorem evd_call {K : PySem.W.Frag} {R : Rl} {E : XK} {tl : TA} {σ : L2.St} {G : Hp} {ds : List PyData} {r : PyData} (h : EvDs K tl σ G ds) (hR : R ds r) : EvD K (tCall (spR K R) [] E tl) σ G r := fun G1 H1 e1 s Q q =>
  h G1 H1 e1 s _ fun vs G2 H2 e2 h2 => ⟨ds, r, G2, e2.sub, by rw [List.append_nil]; exact h2, hR, fun v G3 H3 e3 h3 => q v G3 H3 (e2.trans e3) h3⟩
/-- a def of the text that stands at its name -/
structure Has (P : Program) (w : World) (K : PySem.W.Frag) (mg : Str → Option Value) (base : Heap) (x : Str) (k : Nat) (ps : List Str) (sp : Sp) : Prop where
  ex : ∃ f fd, FnOk P w K mg base CX0 k f fd ps sp ∧ mg x = some (.ref f) ∧ PySem.W.keepIn K (.ref f) = true ∧ Binds K fd ps []
theorem Has.mono {P : Program} {w : World} {K : PySem.W.Frag} {mg : Str → Option Value} {base : Heap} {x : Str} {j k : Nat} {ps : List Str} {sp : Sp} (h : Has P w K mg base x j ps sp) (hk : j ≤ k) : Has P w K mg base x k ps sp := by
  obtain ⟨f, fd, a, b⟩ := h.ex
  exact ⟨f, fd, a.mono hk, b⟩
theorem pe_c {X : Cx} {x : Str} {k : Nat} {ps : List Str} {sp : Sp} {e : Expr} {es : List Expr} {p pos : Pos} {t : TA} (h : Has X.prog X.w X.K X.mg X.base x k ps sp) (hr : Room k X.A) (hg : Gl X x) (ha : PA X (e :: es) t) (hdb : (x == ("__debug__" : Str)) = false := by decide)
    (he : starEach (e :: es) X.env = (false, eval e X.env) :: starEach es X.env := by rfl) (hpl : (backTo pos (starEach es X.env)).any (·.1) = false := by rfl) : PE X (.Call (.Name x p) (e :: es) [] pos) (tCall sp [] E0 t) := by
  obtain ⟨f, fd, F, m, kp, b⟩ := h.ex
  exact pe_call F hr hg m kp b .nil pass0 ha hdb he hpl
/-! ### statements -/
section
variable {K : PySem.W.Frag} {G H G0 H0 : Hp} {v : V} {d e : PyData} {ds es : List PyData} {σ : L2.St} {te ta tb : TE} {t : TT} {D : Ends} {tu tw tz : TS}
theorem sr (h : EvD K te σ G d) (s : Ex G H) (k : ∀ v G' H', Ext G H G' H' → Is K G' v d → D.rt v H') : tRet te D σ H := h G H (Ex.refl _) s _ k
theorem sa {i : Nat} (h : EvD K te σ G d) (s : Ex G H) (k : ∀ v G' H', Ext G H G' H' → Is K G' v d → D.nx (σ.set i (some v)) H') : tAsg te (gName i) D σ H := h G H (Ex.refl _) s _ k
theorem qa {i : Nat} (h : EvD K te σ G d) (s : Ex G H) (k : ∀ v G' H', Ext G H G' H' → Is K G' v d → tz D (σ.set i (some v)) H') : tSeq (tAsg te (gName i)) tz D σ H := h G H (Ex.refl _) s _ k
/-- an if, and what stands behind it -/
theorem qi {b : Bool} (h : EvB t σ G b) (s : Ex G H) (k : ∀ G' H', Ext G H G' H' → if b = true then tu { D with nx := tz D } σ H' else tw { D with nx := tz D } σ H') : tSeq (tIfS t tu tw) tz D σ H := h G H (Ex.refl _) s _ k
theorem si {b : Bool} (h : EvB t σ G b) (s : Ex G H) (k : ∀ G' H', Ext G H G' H' → if b = true then tu D σ H' else tw D σ H') : tIfS t tu tw D σ H := h G H (Ex.refl _) s _ k
/-- a, b, .. = a tuple; a list -/
theorem s_unp {n : Nat} {tg : TGs} (h : EvD K te σ G (.tuple ds)) (s : Ex G H) (hn : ds.length = n) (k : ∀ xs G' H', Ext G H G' H' → IsAll K G' xs ds → tg xs σ H' D.nx) : tAsg te (gTup K n tg) D σ H := h G H (Ex.refl _) s _ fun v G1 H1 e1 h1 => by
  obtain ⟨a, xs, rfl, hx, hs⟩ := h1.tupIn
  exact ⟨a, xs, rfl, ex_t e1.sub hx, by rw [hs.length, hn], k xs G1 H1 e1 hs⟩
theorem s_unpL {n : Nat} {tg : TGs} (h : EvD K te σ G (.list ds)) (s : Ex G H) (hn : ds.length = n) (k : ∀ xs G' H', Ext G H G' H' → IsAll K G' xs ds → tg xs σ H' D.nx) : tAsg te (gUnl K n tg) D σ H := h G H (Ex.refl _) s _ fun v G1 H1 e1 h1 => by
  obtain ⟨a, xs, rfl, hx, hs⟩ := h1.lstIn
  exact ⟨a, xs, rfl, SqL.of (e1.sub _ _ hx), by rw [hs.length, hn], k xs G1 H1 e1 hs⟩
/-- xs.append(e), xs a list of ours that is not seen -/
theorem s_app {i : Nat} {l : Addr} {acc : List V} (hl : σ[i]? = some (some (.ref l))) (hL : H l = some (.lst acc)) (hz : acc.length < 100000) (h : EvD K te σ G d) (s : Ex G H) (k : ∀ v G' H', Ext G H G' H' → H' l = some (.lst acc) → Is K G' v d → D.nx σ (upd H' l (.lst (acc ++ [v])))) :
    tDrop (tBM K "list" rAppend (tVar i) (tCons te tNil)) D σ H :=
  ⟨_, hl, .inl ⟨rfl, _, SqL.of hL⟩, h G H (Ex.refl _) s _ fun v G1 H1 e1 h1 => ⟨l, acc, v, rfl, rfl, e1.h _ _ hL, sz_lt hz, k v G1 H1 e1 (e1.h _ _ hL) h1⟩⟩
/-! ### comprehensions: a list of a list, each item by itself -/
theorem evd_lc {tl : TE} {j : Nat} {vs : List Nat} (f : PyData → PyData) (p : PyData → Bool) (h : EvD K tl σ G (.list ds)) (hz : ds.length ≤ 100000) (hw : ∀ x, wipe ((wipe σ vs).set j (some x)) vs = wipe σ vs)
    (ht : ∀ (d : PyData) (v : V) G1, Ex G G1 → d ∈ ds → Is K G1 v d → EvB t ((wipe σ vs).set j (some v)) G1 (p d))
    (he : ∀ (d : PyData) (v : V) G1, Ex G G1 → d ∈ ds → p d = true → Is K G1 v d → EvD K te ((wipe σ vs).set j (some v)) G1 (f d)) :
    EvD K (tLc (iList K tl) (gName j) t te vs) σ G (.list ((ds.filter p).map f)) := fun G1 H1 e1 s Q q => h G1 H1 e1 s _ fun v G2 H2 e2 h2 => by
  obtain ⟨a, xs, rfl, hx, hs⟩ := h2.lstIn
  refine ⟨a, rfl, ⟨xs, SqL.of (e2.sub _ _ hx)⟩, fun D hD => ?_⟩
  have gD : G2 D = none := fresh_back e2.sub hD
  refine lc_list (K := K) (a := a) (xs := xs) (fun i H' => ∃ G' acc, Ext G2 H2 G' H' ∧ G' D = none ∧ H' D = some (.lst acc) ∧ acc.length ≤ i ∧ IsAll K G' acc (((ds.take i).filter p).map f)) ?_ (fun i H' _ ⟨G', _, e, _⟩ => SqL.of (e.h _ _ (e2.sub _ _ hx))) ?_ ?_
  · exact ⟨G2, [], (Ext.refl e2.sub).mut hD gD, gD, upd_same, Nat.le_refl _, .nil⟩
  · intro i x H' hi ⟨G', acc, ex, gD', hacc, hl, hall⟩
    obtain ⟨d, hd, hxd⟩ := (hs.mono ex.g).at hi
    have hmem : d ∈ ds := List.mem_of_getElem? hd
    have htk : ds.take (i + 1) = ds.take i ++ [d] := by rw [List.take_add_one, hd]; rfl
    have hiz : i < ds.length := (List.getElem?_eq_some_iff.mp hd).1
    refine ⟨hw x, ht d x G' ((e1.trans e2.g).trans ex.g) hmem hxd G' H' (Ex.refl _) ex.sub _ fun G3 H3 e3 => ?_⟩
    cases hp : p d with
    | false =>
      refine iteF ⟨G3, acc, ex.trans e3, e3.unseen gD' hacc, e3.h _ _ hacc, Nat.le_succ_of_le hl, ?_⟩
      rw [htk, List.filter_append, List.filter_cons_of_neg (by rw [hp]; exact Bool.false_ne_true), List.filter_nil, List.append_nil]
      exact hall.mono e3.g
    | true =>
      refine iteT (he d x G3 (((e1.trans e2.g).trans ex.g).trans e3.g) hmem hp (hxd.mono e3.g) G3 H3 (Ex.refl _) e3.sub _ fun y G4 H4 e4 h4 => ⟨acc, e4.h _ _ (e3.h _ _ hacc), sz_lt (by omega), ?_⟩)
      have g4 : G4 D = none := e4.unseen (e3.unseen gD' hacc) (e3.h _ _ hacc)
      refine ⟨G4, acc ++ [y], ((ex.trans e3).trans e4).mut hD g4, g4, upd_same, by rw [List.length_append, List.length_singleton]; omega, ?_⟩
      rw [htk, List.filter_append, List.filter_cons_of_pos hp, List.filter_nil, List.map_append]
      exact ((hall.mono e3.g).mono e4.g).append (.cons h4 .nil)
  · intro H' ⟨G', acc, ex, gD', hacc, _, hall⟩
    rw [hs.length, List.take_length] at hall
    exact q _ _ _ (e2.trans (ex.show hD gD' hacc)) (.lst upd_same (hall.mono (Ex.new gD')))
end
end Rt
/-! ### the rules with the written part by its name -/
namespace Rt
open PySem PySem.Spec PyProof.Rows L2 Evl
section
variable {X : Cx} {K : PySem.W.Frag}
theorem ix_seqK (h : X.K = K) : IxR X (rIx K) := h ▸ ix_seq
theorem sl_listK (h : X.K = K) : SlR X (rSlL K) := h ▸ sl_list
theorem op_addK (h : X.K = K) : OpR X (binaryOp .Add) (rAddU K) := h ▸ op_addU
theorem op_eqK (h : X.K = K) (hu : X.A.units + 64 < cLine) : OpR X (compareOp .Eq) (rEqU K) := h ▸ op_eqU hu
theorem op_neK (h : X.K = K) (hu : X.A.units + 64 < cLine) : OpR X (compareOp .NotEq) (rNeU K) := h ▸ op_neU hu
theorem call_lenK (h : X.K = K) : CallR X (.builtin "len") (rLen K) := h ▸ call_lenQ
theorem pt_trK (h : X.K = K) {a : Expr} {ta : TE} (ha : PE X a ta) (he : ∀ whole, isTrue a X.env whole = (do let v ← whole; standAt a.pos; holding [v] (truthy v)) := by intro _; rfl) : PT X a (tTr K ta) := h ▸ pt_tr ha he
theorem pi_listK (h : X.K = K) {tg l : Expr} {tl : TE} (hl : PE X l tl) : PI X tg l (iList K tl) := h ▸ pi_list hl
theorem pi_tupK (h : X.K = K) {tg l : Expr} {tl : TE} (hl : PE X l tl) : PI X tg l (iTup K tl) := h ▸ pi_tup hl
theorem pi_enumK (h : X.K = K) {e : Expr} {ta : TA} {p pos tpos : Pos} {elts : List Expr} {kk : Nat} (hg : Gl X "enumerate") (hm : X.mg "enumerate" = none) (ha : PA X [e] ta) (hs : starEach [e] X.env = [(false, eval e X.env)] := by rfl) :
    PI X (.Tuple elts kk tpos) (.Call (.Name "enumerate" p) [e] [] pos) (iEnum K ta) := h ▸ pi_enum hg hm ha hs
theorem pg_tupK (h : X.K = K) {es : List Expr} {k : Nat} {t : TGs} {n : Nat} {pos : Pos} (hc : X.calm = true) (hp : PGs X es t) (hn : (assignEach es X.env).length = n := by rfl) (hst : (assignEach es X.env).findIdx? (·.1) = none := by rfl) : PG X (.Tuple es k pos) (gTup K n t) := h ▸ pg_tup hc hp hn hst
theorem pg_unlK (h : X.K = K) {es : List Expr} {k : Nat} {t : TGs} {n : Nat} {pos : Pos} (hc : X.calm = true) (hp : PGs X es t) (hn : (assignEach es X.env).length = n := by rfl) (hst : (assignEach es X.env).findIdx? (·.1) = none := by rfl) : PG X (.Tuple es k pos) (gUnl K n t) := h ▸ pg_unl hc hp hn hst
theorem pe_appK (h : X.K = K) {o e : Expr} {to te : TE} {apos cpos : Pos} (ho : PE X o to) (he : PE X e te) (hbase : attributeBase o "append" X.env (eval o X.env) = eval o X.env := by rfl) (hline : (apos.endLine == cpos.line) = true := by rfl)
    (hs : starEach [e] X.env = (false, eval e X.env) :: starEach [] X.env := by rfl) : PE X (.Call (.Attribute o "append" apos) [e] [] cpos) (tBM K "list" rAppend to (tCons te tNil)) := by
  subst h
  refine pe_bm PySem.F.plainAttrs_list PySem.F.slot_list_append PySem.F.type_list_append mt_append ho (pa_cons he pa_nil hs) hbase ?_ hline hs rfl
  rw [hs]; rfl
end
end Rt
namespace Rt
open PySem PySem.Spec PyProof.Rows L2 Evl
/-! ### loops: a word of the turn, the slots, what is seen, the heap -/
abbrev Wd := Nat → L2.St → Hp → Hp → Prop
/-- what is seen stays, and is there -/
def Wd.Keeps (Pv : Wd) (G : Hp) : Prop := ∀ i σ' G' H', Pv i σ' G' H' → Ex G G' ∧ Ex G' H'
section
variable {K : PySem.W.Frag} {G H : Hp} {ds : List PyData} {σ : L2.St} {tl : TE} {ta : TA} {D : Ends} {tb tz : TS} {g : TG}
/-- what a turn is to reach -/
abbrev toNext (D : Ends) (nx : L2.St → Hp → Prop) (Pv : Wd) (i : Nat) : Ends := { D with nx := fun σ3 H3 => ∃ G3, Pv (i + 1) σ3 G3 H3, ct := fun σ3 H3 => ∃ G3, Pv (i + 1) σ3 G3 H3, bk := nx }
theorem s_for (h : EvD K tl σ G (.list ds)) (s : Ex G H)
    (k : ∀ G1 H1, Ext G H G1 H1 → ∃ Pv : Wd, Pv.Keeps G1 ∧ Pv 0 σ G1 H1 ∧
      (∀ i d v σ' G' H', ds[i]? = some d → Is K G' v d → Pv i σ' G' H' → g v σ' H' fun σ2 H2 => tb (toNext D D.nx Pv i) σ2 H2) ∧ ∀ σ' G' H', Pv ds.length σ' G' H' → D.nx σ' H') : tFor (iList K tl) g tb D σ H := h G H (Ex.refl _) s _ fun v G1 H1 e1 h1 => by
  obtain ⟨a, xs, rfl, hx, hs'⟩ := h1.lstIn
  obtain ⟨Pv, hP, h0, hs, hd⟩ := k G1 H1 e1
  refine ⟨a, rfl, ⟨xs, SqL.of (e1.sub _ _ hx)⟩, ?_⟩
  refine for_list (K := K) (a := a) (xs := xs) (fun i σ' H' => ∃ G', Pv i σ' G' H') ⟨G1, h0⟩ (fun i σ' H' _ ⟨G', p⟩ => SqL.of ((hP _ _ _ _ p).2 _ _ ((hP _ _ _ _ p).1 _ _ hx))) ?_ ?_
  · intro i x σ' H' hi ⟨G', p⟩
    obtain ⟨d, hd', hxd⟩ := (hs'.mono (hP _ _ _ _ p).1).at hi
    exact hs i d x σ' G' H' hd' hxd p
  · intro σ' H' ⟨G', p⟩
    rw [hs'.length] at p
    exact hd _ _ _ p
theorem q_for (h : EvD K tl σ G (.list ds)) (s : Ex G H)
    (k : ∀ G1 H1, Ext G H G1 H1 → ∃ Pv : Wd, Pv.Keeps G1 ∧ Pv 0 σ G1 H1 ∧
      (∀ i d v σ' G' H', ds[i]? = some d → Is K G' v d → Pv i σ' G' H' → g v σ' H' fun σ2 H2 => tb (toNext D (tz D) Pv i) σ2 H2) ∧ ∀ σ' G' H', Pv ds.length σ' G' H' → tz D σ' H') : tSeq (tFor (iList K tl) g tb) tz D σ H := s_for h s k
/-- over range(n) -/
theorem s_forR {n : Nat} (h : EvD K tl σ G (.int (n : Int))) (hn : n ≤ 100000) (s : Ex G H)
    (k : ∀ G1 H1, Ext G H G1 H1 → ∃ Pv : Wd, Pv 0 σ G1 H1 ∧
      (∀ i σ' G' H', i < n → Pv i σ' G' H' → g (.int (i : Int)) σ' H' fun σ2 H2 => tb (toNext D D.nx Pv i) σ2 H2) ∧ ∀ σ' G' H', Pv n σ' G' H' → D.nx σ' H') : tFor (iRng1 (tCons tl tNil)) g tb D σ H := h G H (Ex.refl _) s _ fun v G1 H1 e1 h1 => by
  obtain rfl := h1.intIn
  obtain ⟨Pv, h0, hs, hd⟩ := k G1 H1 e1
  refine ⟨(n : Int), rfl, by omega, by omega, ?_⟩
  rw [Int.toNat_natCast]
  refine for_range (lo := 0) (n := n) (fun i σ' H' => ∃ G', Pv i σ' G' H') ⟨G1, h0⟩ ?_ fun σ' H' ⟨G', p⟩ => hd _ _ _ p
  intro i σ' H' hi ⟨G', p⟩
  rw [Int.zero_add]
  exact hs i σ' G' H' hi p
theorem q_forR {n : Nat} (h : EvD K tl σ G (.int (n : Int))) (hn : n ≤ 100000) (s : Ex G H)
    (k : ∀ G1 H1, Ext G H G1 H1 → ∃ Pv : Wd, Pv 0 σ G1 H1 ∧
      (∀ i σ' G' H', i < n → Pv i σ' G' H' → g (.int (i : Int)) σ' H' fun σ2 H2 => tb (toNext D (tz D) Pv i) σ2 H2) ∧ ∀ σ' G' H', Pv n σ' G' H' → tz D σ' H') : tSeq (tFor (iRng1 (tCons tl tNil)) g tb) tz D σ H := s_forR h hn s k
/-- for i, x in enumerate(xs) -/
theorem q_forE (h : EvD K tl σ G (.list ds)) (s : Ex G H)
    (k : ∀ G1 H1, Ext G H G1 H1 → ∃ Pv : Wd, Pv.Keeps G1 ∧ Pv 0 σ G1 H1 ∧
      (∀ i d v σ' G' H' T, ds[i]? = some d → Is K G' v d → Pv i σ' G' H' → H' T = none → g (.ref T) σ' (upd H' T (.tup [.int (i : Int), v])) fun σ2 H2 => tb (toNext D (tz D) Pv i) σ2 H2) ∧ ∀ σ' G' H', Pv ds.length σ' G' H' → tz D σ' H') : tSeq (tFor (iEnum K (tCons tl tNil)) g tb) tz D σ H := h G H (Ex.refl _) s _ fun v G1 H1 e1 h1 => by
  obtain ⟨a, xs, rfl, hx, hs'⟩ := h1.lstIn
  obtain ⟨Pv, hP, h0, hs, hd⟩ := k G1 H1 e1
  refine ⟨a, xs, rfl, SqL.of (e1.sub _ _ hx), fun i m σ' H' => m = xs.length - i ∧ i ≤ xs.length ∧ ∃ G', Pv i σ' G' H', ⟨xs.length, by simp, Nat.zero_le _, G1, h0⟩, ?_⟩
  rintro i m σ' H' ⟨rfl, hi, G', p⟩
  have hL : SqL K H' a xs := SqL.of ((hP _ _ _ _ p).2 _ _ ((hP _ _ _ _ p).1 _ _ hx))
  by_cases hlt : i < xs.length
  · refine .inr ⟨⟨xs, xs[i], hL, List.getElem?_eq_getElem hlt⟩, fun σ3 H3 => ∃ G3, Pv (i + 1) σ3 G3 H3, fun σ3 H3 ⟨G3, p3⟩ => ⟨xs.length - (i + 1), by omega, rfl, by omega, G3, p3⟩, ?_⟩
    rintro x H2 ⟨T, y, rfl, hT, rfl, hy⟩
    obtain ⟨d, hd', hxd⟩ := (hs'.mono (hP _ _ _ _ p).1).at (hy xs hL)
    exact hs i d y σ' G' H' T hd' hxd p hT
  · have e : xs.length = i := by omega
    subst e
    rw [hs'.length] at p
    exact .inl ⟨⟨xs, hL, Nat.le_refl _⟩, hd _ _ _ p⟩
end
end Rt
namespace Rt
open PySem PySem.Spec PyProof.Rows L2 Evl
/-- a fraction -/
abbrev fr (x : Rat) : PyData := .tuple [.int x.num, .int (x.den : Int)]
def e3 : Nat := 3000
def e8 : Nat := 8000
def Sz (x : Rat) : Prop := B e3 e3 x
theorem B.sz {n d : Nat} {x : Rat} (h : B n d x) (h1 : n ≤ e3 := by decide) (h2 : d ≤ e3 := by decide) : Sz x := h.mono h1 h2
/-! ### the promises of the defs over fractions -/
def RGcd : Rl := fun ds r => ∃ a b : Int, ds = [.int a, .int b] ∧ r = .int (Int.gcd a b : Int)
def RFrac : Rl := fun ds r => ∃ n d : Int, ds = [.int n, .int d] ∧ d ≠ 0 ∧ n.natAbs < 2 ^ e8 ∧ d.natAbs < 2 ^ e8 ∧ r = fr (Rat.divInt n d)
def RAdd : Rl := fun ds r => ∃ x y, ds = [fr x, fr y] ∧ Sz x ∧ Sz y ∧ r = fr (x + y)
def RNeg : Rl := fun ds r => ∃ x, ds = [fr x] ∧ r = fr (-x)
def RSub : Rl := fun ds r => ∃ x y, ds = [fr x, fr y] ∧ Sz x ∧ Sz y ∧ r = fr (x - y)
def RMul : Rl := fun ds r => ∃ x y, ds = [fr x, fr y] ∧ Sz x ∧ Sz y ∧ r = fr (x * y)
def RDiv : Rl := fun ds r => ∃ x y, ds = [fr x, fr y] ∧ y ≠ 0 ∧ Sz x ∧ Sz y ∧ r = fr (x / y)
def sgn (x : Rat) : Int := if x.num > 0 then 1 else if x.num < 0 then -1 else 0
def RSign : Rl := fun ds r => ∃ x, ds = [fr x] ∧ r = .int (sgn x)
def RCmp : Rl := fun ds r => ∃ x y, ds = [fr x, fr y] ∧ Sz x ∧ Sz y ∧ r = .int (sgn (x - y))
def RLess : Rl := fun ds r => ∃ x y, ds = [fr x, fr y] ∧ Sz x ∧ Sz y ∧ r = .bool (decide (x < y))
/-- a fraction or None -/
def ofr : Option Rat → PyData
  | none => .none
  | some x => fr x
def RLeast : Rl := fun ds r => ∃ xs : List Rat, ds = [.list (xs.map fr)] ∧ xs.length ≤ 50000 ∧ (∀ x ∈ xs, Sz x) ∧ r = ofr (leastR xs)
def RGreatest : Rl := fun ds r => ∃ xs : List Rat, ds = [.list (xs.map fr)] ∧ xs.length ≤ 50000 ∧ (∀ x ∈ xs, Sz x) ∧ r = ofr (greatestR xs)
section
variable {K : PySem.W.Frag} {G : Hp} {σ : L2.St} {E : XK} {ta tb tc td : TE} {x y z u : Rat} {i j : Int}
theorem ev_gcd (ha : EvD K ta σ G (.int i)) (hb : EvD K tb σ G (.int j)) : EvD K (tCall (spR K RGcd) [] E (tCons ta (tCons tb tNil))) σ G (.int (Int.gcd i j : Int)) := evd_call (es_cons ha (es_cons hb es_nil)) ⟨i, j, rfl, rfl⟩
theorem ev_frac (ha : EvD K ta σ G (.int i)) (hb : EvD K tb σ G (.int j)) (h0 : j ≠ 0) (h1 : i.natAbs < 2 ^ e8) (h2 : j.natAbs < 2 ^ e8) : EvD K (tCall (spR K RFrac) [] E (tCons ta (tCons tb tNil))) σ G (fr (Rat.divInt i j)) :=
  evd_call (es_cons ha (es_cons hb es_nil)) ⟨i, j, rfl, h0, h1, h2, rfl⟩
theorem ev_add (ha : EvD K ta σ G (fr x)) (hb : EvD K tb σ G (fr y)) (h1 : Sz x) (h2 : Sz y) : EvD K (tCall (spR K RAdd) [] E (tCons ta (tCons tb tNil))) σ G (fr (x + y)) := evd_call (es_cons ha (es_cons hb es_nil)) ⟨x, y, rfl, h1, h2, rfl⟩
theorem ev_sub (ha : EvD K ta σ G (fr x)) (hb : EvD K tb σ G (fr y)) (h1 : Sz x) (h2 : Sz y) : EvD K (tCall (spR K RSub) [] E (tCons ta (tCons tb tNil))) σ G (fr (x - y)) := evd_call (es_cons ha (es_cons hb es_nil)) ⟨x, y, rfl, h1, h2, rfl⟩
theorem ev_mul (ha : EvD K ta σ G (fr x)) (hb : EvD K tb σ G (fr y)) (h1 : Sz x) (h2 : Sz y) : EvD K (tCall (spR K RMul) [] E (tCons ta (tCons tb tNil))) σ G (fr (x * y)) := evd_call (es_cons ha (es_cons hb es_nil)) ⟨x, y, rfl, h1, h2, rfl⟩
theorem ev_div (ha : EvD K ta σ G (fr x)) (hb : EvD K tb σ G (fr y)) (h0 : y ≠ 0) (h1 : Sz x) (h2 : Sz y) : EvD K (tCall (spR K RDiv) [] E (tCons ta (tCons tb tNil))) σ G (fr (x / y)) := evd_call (es_cons ha (es_cons hb es_nil)) ⟨x, y, rfl, h0, h1, h2, rfl⟩
theorem ev_neg (ha : EvD K ta σ G (fr x)) : EvD K (tCall (spR K RNeg) [] E (tCons ta tNil)) σ G (fr (-x)) := evd_call (es_cons ha es_nil) ⟨x, rfl, rfl⟩
theorem ev_sign (ha : EvD K ta σ G (fr x)) : EvD K (tCall (spR K RSign) [] E (tCons ta tNil)) σ G (.int (sgn x)) := evd_call (es_cons ha es_nil) ⟨x, rfl, rfl⟩
theorem ev_cmp (ha : EvD K ta σ G (fr x)) (hb : EvD K tb σ G (fr y)) (h1 : Sz x) (h2 : Sz y) : EvD K (tCall (spR K RCmp) [] E (tCons ta (tCons tb tNil))) σ G (.int (sgn (x - y))) := evd_call (es_cons ha (es_cons hb es_nil)) ⟨x, y, rfl, h1, h2, rfl⟩
theorem ev_less (ha : EvD K ta σ G (fr x)) (hb : EvD K tb σ G (fr y)) (h1 : Sz x) (h2 : Sz y) : EvD K (tCall (spR K RLess) [] E (tCons ta (tCons tb tNil))) σ G (.bool (decide (x < y))) := evd_call (es_cons ha (es_cons hb es_nil)) ⟨x, y, rfl, h1, h2, rfl⟩
/-- the parts of a fraction -/
theorem ev_num (ha : EvD K ta σ G (fr x)) : EvD K (tOp (rIx K) ta (tC (.int 0))) σ G (.int x.num) := evd_ixT ha evd_int rfl
theorem ev_den (ha : EvD K ta σ G (fr x)) : EvD K (tOp (rIx K) ta (tC (.int 1))) σ G (.int (x.den : Int)) := evd_ixT ha evd_int rfl
end
/-! ### a def's body -/
def top (i : Nat) : Stmt := PySem.Challenge.pw_raytrain_k50_clearances.main.body.getD i (.Pass ⟨0, 0, 0, 0⟩)
section
variable {w : World} {P : Program} {K : PySem.W.Frag} {mg : Str → Option Value} {base : Heap}
theorem has_of {x : Str} {st : Stmt} {f : Addr} {fd : FuncData} {N ps : List Str} {k : Nat} {sp : Sp} (F : Fun K x x st f fd) (m : mg x = some (.ref f)) (b : Binds K fd ps []) (S : FnScope N ps (defScope st)) (len : ∀ vs H Q E, sp vs H Q E → vs.length = ps.length)
    (hbody : ∀ (cdv : Value) (A : Around) (outer : List Env) (s : Shared) (H : Hp) (vs : List V) (Q : VK) (E : XK), Room k (A.deeper (envOfC x (defScope st) s.heap.objs.size f cdv)) → sp vs H Q E →
      ∃ t, PSs (cxOf CX0 P w K mg base N x (defScope st) f cdv A outer s H E).nox (defBody st) t ∧ t { nx := fun _ H' => Q .non H', rt := Q } (start N vs) H) : Has P w K mg base x (k + 1) ps sp :=
  ⟨f, fd, F.ok S len hbody, m, F.kp, b⟩
theorem has_pure {x : Str} {st : Stmt} {f : Addr} {fd : FuncData} {N ps : List Str} {k : Nat} {R : Rl} (F : Fun K x x st f fd) (m : mg x = some (.ref f)) (b : Binds K fd ps []) (S : FnScope N ps (defScope st)) (len : ∀ ds r, R ds r → ds.length = ps.length)
    (hbody : ∀ (cdv : Value) (A : Around) (outer : List Env) (s : Shared) (H : Hp) (E : XK), Room k (A.deeper (envOfC x (defScope st) s.heap.objs.size f cdv)) →
      ∃ t, PSs (cxOf CX0 P w K mg base N x (defScope st) f cdv A outer s H E).nox (defBody st) t ∧
        ∀ (vs : List V) (ds : List PyData) (r : PyData) (G : Hp) (Q : VK), Ex G H → IsAll K G vs ds → R ds r → (∀ v G' H', Ext G H G' H' → Is K G' v r → Q v H') → t { nx := fun _ H' => Q .non H', rt := Q } (start N vs) H) : Has P w K mg base x (k + 1) ps (spR K R) :=
  has_of F m b S (fun vs H Q E ⟨ds, r, G, _, hv, hR, _⟩ => by rw [hv.length]; exact len ds r hR) fun cdv A outer s H vs Q E hr ⟨ds, r, G, sG, hv, hR, q⟩ => by
    obtain ⟨t, h1, h2⟩ := hbody cdv A outer s H E hr
    exact ⟨t, h1, h2 vs ds r G Q sG hv hR q⟩
end
section
variable {K : PySem.W.Frag} {G : Hp} {vs : List V} {a b c d e f : PyData}
theorem IsAll.one (h : IsAll K G vs [a]) : ∃ v, vs = [v] ∧ Is K G v a := by
  cases h with
  | cons h1 h2 => cases h2; exact ⟨_, rfl, h1⟩
theorem IsAll.two (h : IsAll K G vs [a, b]) : ∃ v u, vs = [v, u] ∧ Is K G v a ∧ Is K G u b := by
  cases h with
  | cons h1 h2 => obtain ⟨u, rfl, h⟩ := h2.one; exact ⟨_, u, rfl, h1, h⟩
theorem IsAll.three (h : IsAll K G vs [a, b, c]) : ∃ v u t, vs = [v, u, t] ∧ Is K G v a ∧ Is K G u b ∧ Is K G t c := by
  cases h with
  | cons h1 h2 => obtain ⟨u, t, rfl, h3, h4⟩ := h2.two; exact ⟨_, u, t, rfl, h1, h3, h4⟩
theorem IsAll.four (h : IsAll K G vs [a, b, c, d]) : ∃ v u t s, vs = [v, u, t, s] ∧ Is K G v a ∧ Is K G u b ∧ Is K G t c ∧ Is K G s d := by
  cases h with
  | cons h1 h2 => obtain ⟨u, t, s, rfl, h3, h4, h5⟩ := h2.three; exact ⟨_, u, t, s, rfl, h1, h3, h4, h5⟩
theorem IsAll.six (h : IsAll K G vs [a, b, c, d, e, f]) : ∃ v u t s r q, vs = [v, u, t, s, r, q] ∧ Is K G v a ∧ Is K G u b ∧ Is K G t c ∧ Is K G s d ∧ Is K G r e ∧ Is K G q f := by
  cases h with
  | cons h1 h2 => cases h2 with
    | cons h3 h4 => obtain ⟨t, s, r, q, rfl, h5, h6, h7, h8⟩ := h4.four; exact ⟨_, _, t, s, r, q, rfl, h1, h3, h5, h6, h7, h8⟩
end
theorem ite_yes {b : Bool} {A B : Prop} (h : b = true) (x : A) : if b = true then A else B := by rw [if_pos h]; exact x
theorem ite_no {b : Bool} {A B : Prop} (h : b = false) (x : B) : if b = true then A else B := by rw [if_neg (by rw [h]; exact Bool.false_ne_true)]; exact x
theorem ite_by {b : Bool} {A B : Prop} (x : b = true → A) (y : b = false → B) : if b = true then A else B := by
  cases b with
  | true => exact iteT (x rfl)
  | false => exact iteF (y rfl)
end Rt
namespace Rt
open PySem PySem.Spec PyProof.Rows L2 Evl
section
variable {w : World} {P : Program} {K : PySem.W.Frag} {mg : Str → Option Value} {base : Heap}
/-- the same for a def with default values, where all arguments are given -/
theorem has_pureD {x : Str} {st : Stmt} {f : Addr} {N ps : List Str} {k : Nat} {R : Rl} {oc : Value} {od an : Option Addr} {dv kV dc pm cd ct : Value} {sl : Array (Option Value)}
    (l : K.lookup f = some ⟨oc, od, .func (PySem.W.fnOf x x (defArgs st) (defBody st) (defScope st) dv kV dc pm an cd ct), sl⟩) (c : PySem.W.codeIn K cd x = true) (kp : PySem.W.keepIn K (.ref f) = true)
    (m : mg x = some (.ref f)) (b : Binds K (PySem.W.fnOf x x (defArgs st) (defBody st) (defScope st) dv kV dc pm an cd ct) ps []) (S : FnScope N ps (defScope st)) (len : ∀ ds r, R ds r → ds.length = ps.length)
    (hbody : ∀ (cdv : Value) (A : Around) (outer : List Env) (s : Shared) (H : Hp) (E : XK), Room k (A.deeper (envOfC x (defScope st) s.heap.objs.size f cdv)) →
      ∃ t, PSs (cxOf CX0 P w K mg base N x (defScope st) f cdv A outer s H E).nox (defBody st) t ∧
        ∀ (vs : List V) (ds : List PyData) (r : PyData) (G : Hp) (Q : VK), Ex G H → IsAll K G vs ds → R ds r → (∀ v G' H', Ext G H G' H' → Is K G' v r → Q v H') → t { nx := fun _ H' => Q .non H', rt := Q } (start N vs) H) : Has P w K mg base x (k + 1) ps (spR K R) :=
  ⟨f, _, fn_of l c S (fun vs H Q E ⟨ds, r, G, _, hv, hR, _⟩ => by rw [hv.length]; exact len ds r hR) fun A outer s H vs Q E hr ⟨ds, r, G, sG, hv, hR, q⟩ => by
    obtain ⟨t, h1, h2⟩ := hbody cd A outer s H E hr
    exact ⟨t, h1.nox, h2 vs ds r G Q sG hv hR q⟩, m, kp, b⟩
end
end Rt
namespace Rt
open PySem PySem.Spec PyProof.Rows L2 Evl
section
variable {w : World} {P : Program} {K : PySem.W.Frag} {mg : Str → Option Value} {base : Heap} {f : Addr} {fd : FuncData}
/-! ### sizes -/
theorem Sz.num {x : Rat} (h : Sz x) : x.num.natAbs < 2 ^ e3 := h.1
theorem Sz.den {x : Rat} (h : Sz x) : ((x.den : Int)).natAbs < 2 ^ e3 := by simpa using h.2
theorem Sz.neg {x : Rat} (h : Sz x) : Sz (-x) := B.neg h
theorem mulOk {i j : Int} (h1 : i.natAbs < 2 ^ e3) (h2 : j.natAbs < 2 ^ e3) : CMulW i j := wide_mul h1 h2 (by decide) (by decide) (by decide)
theorem szMul {i j : Int} (h1 : i.natAbs < 2 ^ e3) (h2 : j.natAbs < 2 ^ e3) : (i * j).natAbs < 2 ^ e8 := Nat.lt_of_lt_of_le (abs_mul_lt h1 h2) (Nat.pow_le_pow_right (by decide) (by decide))
theorem szAdd {i j k l : Int} (h1 : i.natAbs < 2 ^ e3) (h2 : j.natAbs < 2 ^ e3) (h3 : k.natAbs < 2 ^ e3) (h4 : l.natAbs < 2 ^ e3) : (i * j + k * l).natAbs < 2 ^ e8 :=
  abs_add_lt (abs_mul_lt h1 h2) (abs_mul_lt h3 h4) (by decide) (by decide)
theorem divOk {n : Int} {g : Nat} (h0 : g ≠ 0) (h : g < 2 ^ e8) : CDivX n (g : Int) := ⟨by omega, Nat.lt_of_lt_of_le (PySem.Flt.log2_lt_of (k := e8) (by decide) (by simpa using h)) (by decide)⟩
theorem divOk' {n : Int} {g : Nat} (h0 : g ≠ 0) (h : g < 2 ^ e8) : CDivX n (-(g : Int)) := ⟨by omega, Nat.lt_of_lt_of_le (PySem.Flt.log2_lt_of (k := e8) (by decide) (by simpa using h)) (by decide)⟩
theorem gcd_ne {n d : Int} (h : d ≠ 0) : Int.gcd n d ≠ 0 := fun e => h (Int.gcd_eq_zero_iff.mp e).2
theorem gcd_sz {n d : Int} (h : d ≠ 0) (hd : d.natAbs < 2 ^ e8) : Int.gcd n d < 2 ^ e8 := Nat.lt_of_le_of_lt (Nat.le_of_dvd (by omega) (Nat.gcd_dvd_right ..)) hd
/-! ### the greatest common divisor, by remainders -/
theorem gcd_turn {a b : Nat} : Nat.gcd b (a % b) = Nat.gcd a b := by
  rw [Nat.gcd_comm b, ← Nat.gcd_rec, Nat.gcd_comm]
theorem mod_nat {a b : Nat} : ((a : Int) % (b : Int)) = ((a % b : Nat) : Int) := (Int.natCast_emod a b).symm
abbrev scommon_divisor : Stmt := top 8
theorem sccommon_divisor : FnScope ["first", "second", "one", "other"] ["first", "second"] (defScope scommon_divisor) := ⟨rfl, rfl, rfl, by decide +kernel, rfl, by decide +kernel, by decide +kernel⟩
theorem lk_common_divisor_first : (defScope scommon_divisor).names.lookup ("first" : Str) = some .local := by decide +kernel
theorem lk_common_divisor_second : (defScope scommon_divisor).names.lookup ("second" : Str) = some .local := by decide +kernel
theorem lk_common_divisor_one : (defScope scommon_divisor).names.lookup ("one" : Str) = some .local := by decide +kernel
theorem lk_common_divisor_other : (defScope scommon_divisor).names.lookup ("other" : Str) = some .local := by decide +kernel
theorem gk_common_divisor_abs : (defScope scommon_divisor).names.lookup ("abs" : Str) = some .globalImplicit := by decide +kernel
theorem has_common_divisor (F : Fun K "common_divisor" "common_divisor" scommon_divisor f fd) (m : mg "common_divisor" = some (.ref f)) (zAbs : mg "abs" = none) : Has P w K mg base "common_divisor" 1 ["first", "second"] (spR K RGcd) :=
  has_pure F m (F.binds fun _ _ _ _ _ _ us hl => match us, hl with | [_, _], _ => rfl) sccommon_divisor (fun ds r ⟨_, _, e, _⟩ => by rw [e]; rfl) fun cdv A outer s H E hr => by
    refine ⟨_, (pss_cons (ps_set (i := 2) sccommon_divisor.nd rfl (Or.inl lk_common_divisor_one) (pe_callB call_absI gk_common_divisor_abs zAbs (by decide +kernel) (pa_cons (pv 0 rfl (Or.inl lk_common_divisor_first)) pa_nil))) (pss_cons (ps_set (i := 3) sccommon_divisor.nd rfl (Or.inl lk_common_divisor_other) (pe_callB call_absI gk_common_divisor_abs zAbs (by decide +kernel) (pa_cons (pv 1 rfl (Or.inl lk_common_divisor_second)) pa_nil))) (pss_cons (ps_while PassesOwn.never (pt_cmpR op_gtI (pv 3 rfl (Or.inl lk_common_divisor_other)) pe_int (nomark _)) (pss_one (ps_par (i := 2) (j := 3) (by rfl) sccommon_divisor.nd rfl rfl (by decide) lk_common_divisor_one lk_common_divisor_other (pa_cons (pv 3 rfl (Or.inl lk_common_divisor_other)) (pa_cons (pe_op op_modI (pv 2 rfl (Or.inl lk_common_divisor_one)) (pv 3 rfl (Or.inl lk_common_divisor_other))) pa_nil)) (by rfl)))) (pss_one (ps_ret (pv 2 rfl (Or.inl lk_common_divisor_one))))))), fun vs ds r G Q sG hv hR q => ?_⟩
    obtain ⟨x, y, rfl, rfl⟩ := hR
    obtain ⟨v, u, rfl, h1, h2⟩ := hv.two
    obtain rfl := h1.intIn
    obtain rfl := h2.intIn
    refine qa (K := K) (evd_abs (evd_var rfl (.int x))) sG fun v1 G1 H1 e1 g1 => ?_
    obtain rfl := g1.intIn
    refine qa (K := K) (evd_abs (evd_var rfl (.int y))) e1.sub fun v2 G2 H2 e2 g2 => ?_
    obtain rfl := g2.intIn
    refine ⟨fun m σ H' => ∃ (a b : Nat) (G' : Hp), m = b ∧ σ = [some (.int x), some (.int y), some (.int a), some (.int b)] ∧ Nat.gcd a b = Int.gcd x y ∧ Ext G H G' H', ⟨y.natAbs, x.natAbs, y.natAbs, G2, rfl, rfl, rfl, e1.trans e2⟩, ?_⟩
    rintro b σ H' ⟨a, _, G', rfl, rfl, hg, e⟩
    refine eb_val (K := K) (evd_gt (evd_var rfl (.int (b : Int))) evd_int) G' H' (Ex.refl _) e.sub _ fun G3 H3 e3 => ?_
    refine ite_by (fun hb => ?_) fun hb => ?_
    · have hb' : 0 < (b : Int) := of_decide_eq_true hb
      refine ⟨fun σ' H' => ∃ (a' b' : Nat) (G' : Hp), b' < b ∧ σ' = [some (.int x), some (.int y), some (.int a'), some (.int b')] ∧ Nat.gcd a' b' = Int.gcd x y ∧ Ext G H G' H', fun σ' H' ⟨a', b', G', h1, h2, h3, h4⟩ => ⟨b', h1, a', b', G', rfl, h2, h3, h4⟩, ?_⟩
      refine es_cons (K := K) (evd_var (v := .int b) rfl (.int (b : Int))) (es_cons (evd_mod (evd_var rfl (.int (a : Int))) (evd_var rfl (.int (b : Int))) hb') es_nil) G3 H3 (Ex.refl _) e3.sub _ fun vs G4 H4 e4 h4 => ?_
      obtain ⟨v, u, rfl, k1, k2⟩ := h4.two
      obtain rfl := k1.intIn
      obtain rfl := k2.intIn
      refine ⟨_, _, rfl, b, a % b, G4, Nat.mod_lt _ (by omega), ?_, by rw [gcd_turn]; exact hg, (e.trans e3).trans e4⟩
      rw [mod_nat]
      rfl
    · have hb' : ¬ 0 < (b : Int) := of_decide_eq_false hb
      have b0 : b = 0 := by omega
      subst b0
      rw [Nat.gcd_zero_right] at hg
      refine sr (K := K) (evd_var rfl (.int (a : Int))) e3.sub fun v G5 H5 e5 h5 => q v G5 H5 ((e.trans e3).trans e5) ?_
      rw [← hg]; exact h5
abbrev s_law_frac : Stmt := top 36
theorem sc_law_frac : FnScope ["_law_top", "_law_bottom", "_law_one", "_law_other"] ["_law_top", "_law_bottom"] (defScope s_law_frac) := ⟨rfl, rfl, rfl, by decide +kernel, rfl, by decide +kernel, by decide +kernel⟩
theorem lk__law_frac__law_top : (defScope s_law_frac).names.lookup ("_law_top" : Str) = some .local := by decide +kernel
theorem lk__law_frac__law_bottom : (defScope s_law_frac).names.lookup ("_law_bottom" : Str) = some .local := by decide +kernel
theorem lk__law_frac__law_one : (defScope s_law_frac).names.lookup ("_law_one" : Str) = some .local := by decide +kernel
theorem lk__law_frac__law_other : (defScope s_law_frac).names.lookup ("_law_other" : Str) = some .local := by decide +kernel
theorem gk__law_frac_int : (defScope s_law_frac).names.lookup ("int" : Str) = some .globalImplicit := by decide +kernel
theorem gk__law_frac_abs : (defScope s_law_frac).names.lookup ("abs" : Str) = some .globalImplicit := by decide +kernel
theorem has__law_frac (F : Fun K "_law_frac" "_law_frac" s_law_frac f fd) (m : mg "_law_frac" = some (.ref f)) (zAbs : mg "abs" = none) (zInt : mg "int" = none) : Has P w K mg base "_law_frac" 1 ["_law_top", "_law_bottom"] (spR K RFrac) :=
  has_pure F m (F.binds fun _ _ _ _ _ _ us hl => match us, hl with | [_, _], _ => rfl) sc_law_frac (fun ds r ⟨_, _, e, _⟩ => by rw [e]; rfl) fun cdv A outer s H E hr => by
    refine ⟨_, (pss_cons (ps_set (i := 2) sc_law_frac.nd rfl (Or.inl lk__law_frac__law_one) (pe_callB call_absI gk__law_frac_abs zAbs (by decide +kernel) (pa_cons (pv 0 rfl (Or.inl lk__law_frac__law_top)) pa_nil))) (pss_cons (ps_set (i := 3) sc_law_frac.nd rfl (Or.inl lk__law_frac__law_other) (pe_callB call_absI gk__law_frac_abs zAbs (by decide +kernel) (pa_cons (pv 1 rfl (Or.inl lk__law_frac__law_bottom)) pa_nil))) (pss_cons (ps_while PassesOwn.never (pt_cmpR op_gtI (pv 3 rfl (Or.inl lk__law_frac__law_other)) pe_int (nomark _)) (pss_one (ps_par (i := 2) (j := 3) (by rfl) sc_law_frac.nd rfl rfl (by decide) lk__law_frac__law_one lk__law_frac__law_other (pa_cons (pv 3 rfl (Or.inl lk__law_frac__law_other)) (pa_cons (pe_op op_modI (pe_callTy call_toI gk__law_frac_int zInt (by decide +kernel) (pa_cons (pv 2 rfl (Or.inl lk__law_frac__law_one)) pa_nil)) (pv 3 rfl (Or.inl lk__law_frac__law_other))) pa_nil)) (by rfl)))) (pss_cons (ps_if (pt_cmpR op_ltI (pv 1 rfl (Or.inl lk__law_frac__law_bottom)) pe_int (nomark _)) (pss_one (ps_set (i := 2) sc_law_frac.nd rfl (Or.inl lk__law_frac__law_one) (pe_un un_negI (pv 2 rfl (Or.inl lk__law_frac__law_one))))) pss_nil) (pss_one (ps_ret (pe_tup (pa_cons (pe_op op_divI (pv 0 rfl (Or.inl lk__law_frac__law_top)) (pv 2 rfl (Or.inl lk__law_frac__law_one))) (pa_cons (pe_op op_divI (pv 1 rfl (Or.inl lk__law_frac__law_bottom)) (pv 2 rfl (Or.inl lk__law_frac__law_one))) pa_nil))))))))), fun vs ds r G Q sG hv hR q => ?_⟩
    obtain ⟨x, y, rfl, hy0, hx8, hy8, rfl⟩ := hR
    obtain ⟨v, u, rfl, h1, h2⟩ := hv.two
    obtain rfl := h1.intIn
    obtain rfl := h2.intIn
    refine qa (K := K) (evd_abs (evd_var rfl (.int x))) sG fun v1 G1 H1 e1 g1 => ?_
    obtain rfl := g1.intIn
    refine qa (K := K) (evd_abs (evd_var rfl (.int y))) e1.sub fun v2 G2 H2 e2 g2 => ?_
    obtain rfl := g2.intIn
    refine ⟨fun m σ H' => ∃ (a b : Nat) (G' : Hp), m = b ∧ σ = [some (.int x), some (.int y), some (.int a), some (.int b)] ∧ Nat.gcd a b = Int.gcd x y ∧ Ext G H G' H', ⟨y.natAbs, x.natAbs, y.natAbs, G2, rfl, rfl, rfl, e1.trans e2⟩, ?_⟩
    rintro b σ H' ⟨a, _, G', rfl, rfl, hg, e⟩
    refine eb_val (K := K) (evd_gt (evd_var rfl (.int (b : Int))) evd_int) G' H' (Ex.refl _) e.sub _ fun G3 H3 e3 => ?_
    refine ite_by (fun hb => ?_) fun hb => ?_
    · have hb' : 0 < (b : Int) := of_decide_eq_true hb
      refine ⟨fun σ' H' => ∃ (a' b' : Nat) (G' : Hp), b' < b ∧ σ' = [some (.int x), some (.int y), some (.int a'), some (.int b')] ∧ Nat.gcd a' b' = Int.gcd x y ∧ Ext G H G' H', fun σ' H' ⟨a', b', G', h1, h2, h3, h4⟩ => ⟨b', h1, a', b', G', rfl, h2, h3, h4⟩, ?_⟩
      refine es_cons (K := K) (evd_var (v := .int b) rfl (.int (b : Int))) (es_cons (evd_mod (evd_toInt (evd_var rfl (.int (a : Int)))) (evd_var rfl (.int (b : Int))) hb') es_nil) G3 H3 (Ex.refl _) e3.sub _ fun vs G4 H4 e4 h4 => ?_
      obtain ⟨v, u, rfl, k1, k2⟩ := h4.two
      obtain rfl := k1.intIn
      obtain rfl := k2.intIn
      refine ⟨_, _, rfl, b, a % b, G4, Nat.mod_lt _ (by omega), ?_, by rw [gcd_turn]; exact hg, (e.trans e3).trans e4⟩
      rw [mod_nat]
      rfl
    · have hb' : ¬ 0 < (b : Int) := of_decide_eq_false hb
      have b0 : b = 0 := by omega
      subst b0
      rw [Nat.gcd_zero_right] at hg
      subst hg
      have E3 := e.trans e3
      have z0 := gcd_ne (n := x) hy0
      have z8 := gcd_sz (n := x) hy0 hy8
      refine qi (eb_val (K := K) (evd_lt (evd_var rfl (.int y)) evd_int)) e3.sub fun G4 H4 e4 => ite_by (fun hn => ?_) fun hn => ?_
      · have hn' : y < 0 := of_decide_eq_true hn
        refine sa (K := K) (evd_neg (evd_var rfl (.int (Int.gcd x y : Int)))) e4.sub fun v5 G5 H5 e5 g5 => ?_
        obtain rfl := g5.intIn
        dsimp only
        refine sr ?_ e5.sub fun v G6 H6 e6 g6 => q v G6 H6 (((E3.trans e4).trans e5).trans e6) g6
        have t := evd_tup (es_cons (evd_div (evd_var (K := K) (G := G5) (σ := [some (.int x), some (.int y), some (.int (-(Int.gcd x y : Int))), some (.int 0)]) (i := 0) rfl (.int x)) (evd_var (i := 2) rfl (.int _)) (divOk' z0 z8))
          (es_cons (evd_div (evd_var (i := 1) rfl (.int y)) (evd_var (i := 2) rfl (.int _)) (divOk' z0 z8)) es_nil))
        rw [fdiv_num' hn', fdiv_den' hn'] at t
        exact t
      · have hn' : ¬ y < 0 := of_decide_eq_false hn
        have hp : 0 < y := by omega
        dsimp only [tNext]
        refine sr ?_ e4.sub fun v G6 H6 e6 g6 => q v G6 H6 ((E3.trans e4).trans e6) g6
        have t := evd_tup (es_cons (evd_div (evd_var (K := K) (G := G4) (σ := [some (.int x), some (.int y), some (.int (Int.gcd x y : Int)), some (.int 0)]) (i := 0) rfl (.int x)) (evd_var (i := 2) rfl (.int _)) (divOk z0 z8))
          (es_cons (evd_div (evd_var (i := 1) rfl (.int y)) (evd_var (i := 2) rfl (.int _)) (divOk z0 z8)) es_nil))
        rw [fdiv_num hp, fdiv_den hp] at t
        exact t
end
end Rt
namespace Rt
open PySem PySem.Spec PyProof.Rows L2 Evl
section
variable {w : World} {P : Program} {K : PySem.W.Frag} {mg : Str → Option Value} {base : Heap} {f : Addr} {fd : FuncData}
abbrev sfraction : Stmt := top 9
theorem scfraction : FnScope ["numerator", "denominator", "divisor"] ["numerator", "denominator"] (defScope sfraction) := ⟨rfl, rfl, rfl, by decide +kernel, rfl, by decide +kernel, by decide +kernel⟩
theorem lk_fraction_numerator : (defScope sfraction).names.lookup ("numerator" : Str) = some .local := by decide +kernel
theorem lk_fraction_denominator : (defScope sfraction).names.lookup ("denominator" : Str) = some .local := by decide +kernel
theorem lk_fraction_divisor : (defScope sfraction).names.lookup ("divisor" : Str) = some .local := by decide +kernel
theorem gk_fraction_common_divisor : (defScope sfraction).names.lookup ("common_divisor" : Str) = some .globalImplicit := by decide +kernel
theorem binds_fraction {T : Addr} {oT : Obj} {d1 : Value} {n1 : Nat} {kV dc pm cd ct : Value} {an : Option Addr} (lT : K.lookup T = some oT) (hT : oT.data = .seq #[d1] n1) :
    Binds K (PySem.W.fnOf "fraction" "fraction" (defArgs sfraction) (defBody sfraction) (defScope sfraction) (.ref T) kV dc pm an cd ct) ["numerator", "denominator"] [] := fun s us X hl => match us, hl with
  | [a, b], _ => BindsTo.of_looks fun M => by
    unfold bindArgs
    exact looks_items (T := T) X lT hT (PySem.W.Looks.of_pure rfl)
theorem has_fraction {oc : Value} {od an : Option Addr} {T : Addr} {oT : Obj} {d1 : Value} {n1 : Nat} (lT : K.lookup T = some oT) (hT : oT.data = .seq #[d1] n1) {kV dc pm cd ct : Value} {sl : Array (Option Value)} (l : K.lookup f = some ⟨oc, od, .func (PySem.W.fnOf "fraction" "fraction" (defArgs sfraction) (defBody sfraction) (defScope sfraction) (.ref T) kV dc pm an cd ct), sl⟩)
    (c : PySem.W.codeIn K cd "fraction" = true) (kp : PySem.W.keepIn K (.ref f) = true) (m : mg "fraction" = some (.ref f)) (hcommon_divisor : Has P w K mg base "common_divisor" 1 ["first", "second"] (spR K RGcd)) : Has P w K mg base "fraction" 2 ["numerator", "denominator"] (spR K RFrac) :=
  has_pureD l c kp m (binds_fraction lT hT) scfraction (fun ds r ⟨_, _, e, _⟩ => by rw [e]; rfl) fun cdv A outer s H E hr => by
    refine ⟨_, (pss_cons (ps_set (i := 2) scfraction.nd rfl (Or.inl lk_fraction_divisor) (pe_c hcommon_divisor (hr.mono (by decide)) gk_fraction_common_divisor (pa_cons (pv 0 rfl (Or.inl lk_fraction_numerator)) (pa_cons (pv 1 rfl (Or.inl lk_fraction_denominator)) pa_nil)))) (pss_cons (ps_if (pt_cmpR op_ltI (pv 1 rfl (Or.inl lk_fraction_denominator)) pe_int (nomark _)) (pss_one (ps_set (i := 2) scfraction.nd rfl (Or.inl lk_fraction_divisor) (pe_un un_negI (pv 2 rfl (Or.inl lk_fraction_divisor))))) pss_nil) (pss_one (ps_ret (pe_tup (pa_cons (pe_op op_divI (pv 0 rfl (Or.inl lk_fraction_numerator)) (pv 2 rfl (Or.inl lk_fraction_divisor))) (pa_cons (pe_op op_divI (pv 1 rfl (Or.inl lk_fraction_denominator)) (pv 2 rfl (Or.inl lk_fraction_divisor))) pa_nil))))))), fun vs ds r G Q sG hv hR q => ?_⟩
    obtain ⟨x, y, rfl, hy0, hx8, hy8, rfl⟩ := hR
    obtain ⟨v, u, rfl, h1, h2⟩ := hv.two
    obtain rfl := h1.intIn
    obtain rfl := h2.intIn
    refine qa (ev_gcd (evd_var rfl h1) (evd_var rfl h2)) sG fun v1 G1 H1 e1 g1 => ?_
    obtain rfl := g1.intIn
    have z0 := gcd_ne (n := x) hy0
    have z8 := gcd_sz (n := x) hy0 hy8
    refine qi (eb_val (K := K) (evd_lt (evd_var rfl (.int y)) evd_int)) e1.sub fun G4 H4 e4 => ite_by (fun hn => ?_) fun hn => ?_
    · have hn' : y < 0 := of_decide_eq_true hn
      refine sa (K := K) (evd_neg (evd_var rfl (.int (Int.gcd x y : Int)))) e4.sub fun v5 G5 H5 e5 g5 => ?_
      obtain rfl := g5.intIn
      dsimp only
      refine sr ?_ e5.sub fun v G6 H6 e6 g6 => q v G6 H6 (((e1.trans e4).trans e5).trans e6) g6
      have t := evd_tup (es_cons (evd_div (evd_var (K := K) (G := G5) (σ := [some (.int x), some (.int y), some (.int (-(Int.gcd x y : Int)))]) (i := 0) rfl (.int x)) (evd_var (i := 2) rfl (.int _)) (divOk' z0 z8))
        (es_cons (evd_div (evd_var (i := 1) rfl (.int y)) (evd_var (i := 2) rfl (.int _)) (divOk' z0 z8)) es_nil))
      rw [fdiv_num' hn', fdiv_den' hn'] at t
      exact t
    · have hn' : ¬ y < 0 := of_decide_eq_false hn
      have hp : 0 < y := by omega
      dsimp only [tNext]
      refine sr ?_ e4.sub fun v G6 H6 e6 g6 => q v G6 H6 ((e1.trans e4).trans e6) g6
      have t := evd_tup (es_cons (evd_div (evd_var (K := K) (G := G4) (σ := [some (.int x), some (.int y), some (.int (Int.gcd x y : Int))]) (i := 0) rfl (.int x)) (evd_var (i := 2) rfl (.int _)) (divOk z0 z8))
        (es_cons (evd_div (evd_var (i := 1) rfl (.int y)) (evd_var (i := 2) rfl (.int _)) (divOk z0 z8)) es_nil))
      rw [fdiv_num hp, fdiv_den hp] at t
      exact t
abbrev sadd : Stmt := top 10
theorem scadd : FnScope ["first", "second"] ["first", "second"] (defScope sadd) := ⟨rfl, rfl, rfl, by decide +kernel, rfl, by decide +kernel, by decide +kernel⟩
theorem lk_add_first : (defScope sadd).names.lookup ("first" : Str) = some .local := by decide +kernel
theorem lk_add_second : (defScope sadd).names.lookup ("second" : Str) = some .local := by decide +kernel
theorem gk_add_fraction : (defScope sadd).names.lookup ("fraction" : Str) = some .globalImplicit := by decide +kernel
theorem has_add (F : Fun K "add" "add" sadd f fd) (m : mg "add" = some (.ref f)) (hfraction : Has P w K mg base "fraction" 2 ["numerator", "denominator"] (spR K RFrac)) : Has P w K mg base "add" 3 ["first", "second"] (spR K RAdd) :=
  has_pure F m (F.binds fun _ _ _ _ _ _ us hl => match us, hl with | [_, _], _ => rfl) scadd (fun ds r ⟨_, _, e, _⟩ => by rw [e]; rfl) fun cdv A outer s H E hr => by
    refine ⟨_, (pss_one (ps_ret (pe_c hfraction (hr.mono (by decide)) gk_add_fraction (pa_cons (pe_op (op_addK (K := K) rfl) (pe_op op_mulI (pe_ix (ix_seqK (K := K) rfl) (pv 0 rfl (Or.inl lk_add_first)) pe_int (fun _ _ => rfl)) (pe_ix (ix_seqK (K := K) rfl) (pv 1 rfl (Or.inl lk_add_second)) pe_int (fun _ _ => rfl))) (pe_op op_mulI (pe_ix (ix_seqK (K := K) rfl) (pv 1 rfl (Or.inl lk_add_second)) pe_int (fun _ _ => rfl)) (pe_ix (ix_seqK (K := K) rfl) (pv 0 rfl (Or.inl lk_add_first)) pe_int (fun _ _ => rfl)))) (pa_cons (pe_op op_mulI (pe_ix (ix_seqK (K := K) rfl) (pv 0 rfl (Or.inl lk_add_first)) pe_int (fun _ _ => rfl)) (pe_ix (ix_seqK (K := K) rfl) (pv 1 rfl (Or.inl lk_add_second)) pe_int (fun _ _ => rfl))) pa_nil))))), fun vs ds r G Q sG hv hR q => ?_⟩
    obtain ⟨x, y, rfl, hx, hy, rfl⟩ := hR
    obtain ⟨v, u, rfl, h1, h2⟩ := hv.two
    refine sr ?_ sG q
    rw [add_eq]
    have e0 : EvD K (tVar 0) (start ["first", "second"] [v, u]) G (fr x) := evd_var rfl h1
    have e1 : EvD K (tVar 1) (start ["first", "second"] [v, u]) G (fr y) := evd_var rfl h2
    exact ev_frac (evd_add (evd_mul (ev_num e0) (ev_den e1) (mulOk hx.num hy.den)) (evd_mul (ev_num e1) (ev_den e0) (mulOk hy.num hx.den))) (evd_mul (ev_den e0) (ev_den e1) (mulOk hx.den hy.den))
      (dens_ne x y) (szAdd hx.num hy.den hy.num hx.den) (szMul hx.den hy.den)
abbrev s_law_add : Stmt := top 37
theorem sc_law_add : FnScope ["_law_one", "_law_other"] ["_law_one", "_law_other"] (defScope s_law_add) := ⟨rfl, rfl, rfl, by decide +kernel, rfl, by decide +kernel, by decide +kernel⟩
theorem lk__law_add__law_one : (defScope s_law_add).names.lookup ("_law_one" : Str) = some .local := by decide +kernel
theorem lk__law_add__law_other : (defScope s_law_add).names.lookup ("_law_other" : Str) = some .local := by decide +kernel
theorem gk__law_add__law_frac : (defScope s_law_add).names.lookup ("_law_frac" : Str) = some .globalImplicit := by decide +kernel
theorem has__law_add (F : Fun K "_law_add" "_law_add" s_law_add f fd) (m : mg "_law_add" = some (.ref f)) (h_law_frac : Has P w K mg base "_law_frac" 1 ["_law_top", "_law_bottom"] (spR K RFrac)) : Has P w K mg base "_law_add" 2 ["_law_one", "_law_other"] (spR K RAdd) :=
  has_pure F m (F.binds fun _ _ _ _ _ _ us hl => match us, hl with | [_, _], _ => rfl) sc_law_add (fun ds r ⟨_, _, e, _⟩ => by rw [e]; rfl) fun cdv A outer s H E hr => by
    refine ⟨_, (pss_one (ps_ret (pe_c h_law_frac (hr.mono (by decide)) gk__law_add__law_frac (pa_cons (pe_op (op_addK (K := K) rfl) (pe_op op_mulI (pe_ix (ix_seqK (K := K) rfl) (pv 0 rfl (Or.inl lk__law_add__law_one)) pe_int (fun _ _ => rfl)) (pe_ix (ix_seqK (K := K) rfl) (pv 1 rfl (Or.inl lk__law_add__law_other)) pe_int (fun _ _ => rfl))) (pe_op op_mulI (pe_ix (ix_seqK (K := K) rfl) (pv 1 rfl (Or.inl lk__law_add__law_other)) pe_int (fun _ _ => rfl)) (pe_ix (ix_seqK (K := K) rfl) (pv 0 rfl (Or.inl lk__law_add__law_one)) pe_int (fun _ _ => rfl)))) (pa_cons (pe_op op_mulI (pe_ix (ix_seqK (K := K) rfl) (pv 0 rfl (Or.inl lk__law_add__law_one)) pe_int (fun _ _ => rfl)) (pe_ix (ix_seqK (K := K) rfl) (pv 1 rfl (Or.inl lk__law_add__law_other)) pe_int (fun _ _ => rfl))) pa_nil))))), fun vs ds r G Q sG hv hR q => ?_⟩
    obtain ⟨x, y, rfl, hx, hy, rfl⟩ := hR
    obtain ⟨v, u, rfl, h1, h2⟩ := hv.two
    refine sr ?_ sG q
    rw [add_eq]
    have e0 : EvD K (tVar 0) (start ["_law_one", "_law_other"] [v, u]) G (fr x) := evd_var rfl h1
    have e1 : EvD K (tVar 1) (start ["_law_one", "_law_other"] [v, u]) G (fr y) := evd_var rfl h2
    exact ev_frac (evd_add (evd_mul (ev_num e0) (ev_den e1) (mulOk hx.num hy.den)) (evd_mul (ev_num e1) (ev_den e0) (mulOk hy.num hx.den))) (evd_mul (ev_den e0) (ev_den e1) (mulOk hx.den hy.den))
      (dens_ne x y) (szAdd hx.num hy.den hy.num hx.den) (szMul hx.den hy.den)
abbrev snegative : Stmt := top 11
theorem scnegative : FnScope ["value"] ["value"] (defScope snegative) := ⟨rfl, rfl, rfl, by decide +kernel, rfl, by decide +kernel, by decide +kernel⟩
theorem lk_negative_value : (defScope snegative).names.lookup ("value" : Str) = some .local := by decide +kernel
theorem has_negative (F : Fun K "negative" "negative" snegative f fd) (m : mg "negative" = some (.ref f)) : Has P w K mg base "negative" 1 ["value"] (spR K RNeg) :=
  has_pure F m (F.binds fun _ _ _ _ _ _ us hl => match us, hl with | [_], _ => rfl) scnegative (fun ds r ⟨_, e, _⟩ => by rw [e]; rfl) fun cdv A outer s H E hr => by
    refine ⟨_, (pss_one (ps_ret (pe_tup (pa_cons (pe_un un_negI (pe_ix (ix_seqK (K := K) rfl) (pv 0 rfl (Or.inl lk_negative_value)) pe_int (fun _ _ => rfl))) (pa_cons (pe_ix (ix_seqK (K := K) rfl) (pv 0 rfl (Or.inl lk_negative_value)) pe_int (fun _ _ => rfl)) pa_nil))))), fun vs ds r G Q sG hv hR q => ?_⟩
    obtain ⟨x, rfl, rfl⟩ := hR
    obtain ⟨v, rfl, h1⟩ := hv.one
    have e0 : EvD K (tVar 0) (start ["value"] [v]) G (fr x) := evd_var rfl h1
    exact sr (evd_tup (es_cons (evd_neg (ev_num e0)) (es_cons (ev_den e0) es_nil))) sG q
abbrev s_law_neg : Stmt := top 38
theorem sc_law_neg : FnScope ["_law_one"] ["_law_one"] (defScope s_law_neg) := ⟨rfl, rfl, rfl, by decide +kernel, rfl, by decide +kernel, by decide +kernel⟩
theorem lk__law_neg__law_one : (defScope s_law_neg).names.lookup ("_law_one" : Str) = some .local := by decide +kernel
theorem has__law_neg (F : Fun K "_law_neg" "_law_neg" s_law_neg f fd) (m : mg "_law_neg" = some (.ref f)) : Has P w K mg base "_law_neg" 1 ["_law_one"] (spR K RNeg) :=
  has_pure F m (F.binds fun _ _ _ _ _ _ us hl => match us, hl with | [_], _ => rfl) sc_law_neg (fun ds r ⟨_, e, _⟩ => by rw [e]; rfl) fun cdv A outer s H E hr => by
    refine ⟨_, (pss_one (ps_ret (pe_tup (pa_cons (pe_un un_negI (pe_ix (ix_seqK (K := K) rfl) (pv 0 rfl (Or.inl lk__law_neg__law_one)) pe_int (fun _ _ => rfl))) (pa_cons (pe_ix (ix_seqK (K := K) rfl) (pv 0 rfl (Or.inl lk__law_neg__law_one)) pe_int (fun _ _ => rfl)) pa_nil))))), fun vs ds r G Q sG hv hR q => ?_⟩
    obtain ⟨x, rfl, rfl⟩ := hR
    obtain ⟨v, rfl, h1⟩ := hv.one
    have e0 : EvD K (tVar 0) (start ["_law_one"] [v]) G (fr x) := evd_var rfl h1
    exact sr (evd_tup (es_cons (evd_neg (ev_num e0)) (es_cons (ev_den e0) es_nil))) sG q
abbrev ssubtract : Stmt := top 12
theorem scsubtract : FnScope ["first", "second"] ["first", "second"] (defScope ssubtract) := ⟨rfl, rfl, rfl, by decide +kernel, rfl, by decide +kernel, by decide +kernel⟩
theorem lk_subtract_first : (defScope ssubtract).names.lookup ("first" : Str) = some .local := by decide +kernel
theorem lk_subtract_second : (defScope ssubtract).names.lookup ("second" : Str) = some .local := by decide +kernel
theorem gk_subtract_add : (defScope ssubtract).names.lookup ("add" : Str) = some .globalImplicit := by decide +kernel
theorem gk_subtract_negative : (defScope ssubtract).names.lookup ("negative" : Str) = some .globalImplicit := by decide +kernel
theorem has_subtract (F : Fun K "subtract" "subtract" ssubtract f fd) (m : mg "subtract" = some (.ref f)) (hadd : Has P w K mg base "add" 3 ["first", "second"] (spR K RAdd)) (hnegative : Has P w K mg base "negative" 1 ["value"] (spR K RNeg)) : Has P w K mg base "subtract" 4 ["first", "second"] (spR K RSub) :=
  has_pure F m (F.binds fun _ _ _ _ _ _ us hl => match us, hl with | [_, _], _ => rfl) scsubtract (fun ds r ⟨_, _, e, _⟩ => by rw [e]; rfl) fun cdv A outer s H E hr => by
    refine ⟨_, (pss_one (ps_ret (pe_c hadd (hr.mono (by decide)) gk_subtract_add (pa_cons (pv 0 rfl (Or.inl lk_subtract_first)) (pa_cons (pe_c hnegative (hr.mono (by decide)) gk_subtract_negative (pa_cons (pv 1 rfl (Or.inl lk_subtract_second)) pa_nil)) pa_nil))))), fun vs ds r G Q sG hv hR q => ?_⟩
    obtain ⟨x, y, rfl, hx, hy, rfl⟩ := hR
    obtain ⟨v, u, rfl, h1, h2⟩ := hv.two
    refine sr ?_ sG q
    rw [Rat.sub_eq_add_neg]
    exact ev_add (evd_var rfl h1) (ev_neg (evd_var rfl h2)) hx hy.neg
abbrev s_law_sub : Stmt := top 39
theorem sc_law_sub : FnScope ["_law_one", "_law_other"] ["_law_one", "_law_other"] (defScope s_law_sub) := ⟨rfl, rfl, rfl, by decide +kernel, rfl, by decide +kernel, by decide +kernel⟩
theorem lk__law_sub__law_one : (defScope s_law_sub).names.lookup ("_law_one" : Str) = some .local := by decide +kernel
theorem lk__law_sub__law_other : (defScope s_law_sub).names.lookup ("_law_other" : Str) = some .local := by decide +kernel
theorem gk__law_sub__law_add : (defScope s_law_sub).names.lookup ("_law_add" : Str) = some .globalImplicit := by decide +kernel
theorem gk__law_sub__law_neg : (defScope s_law_sub).names.lookup ("_law_neg" : Str) = some .globalImplicit := by decide +kernel
theorem has__law_sub (F : Fun K "_law_sub" "_law_sub" s_law_sub f fd) (m : mg "_law_sub" = some (.ref f)) (h_law_add : Has P w K mg base "_law_add" 2 ["_law_one", "_law_other"] (spR K RAdd)) (h_law_neg : Has P w K mg base "_law_neg" 1 ["_law_one"] (spR K RNeg)) : Has P w K mg base "_law_sub" 3 ["_law_one", "_law_other"] (spR K RSub) :=
  has_pure F m (F.binds fun _ _ _ _ _ _ us hl => match us, hl with | [_, _], _ => rfl) sc_law_sub (fun ds r ⟨_, _, e, _⟩ => by rw [e]; rfl) fun cdv A outer s H E hr => by
    refine ⟨_, (pss_one (ps_ret (pe_c h_law_add (hr.mono (by decide)) gk__law_sub__law_add (pa_cons (pv 0 rfl (Or.inl lk__law_sub__law_one)) (pa_cons (pe_c h_law_neg (hr.mono (by decide)) gk__law_sub__law_neg (pa_cons (pv 1 rfl (Or.inl lk__law_sub__law_other)) pa_nil)) pa_nil))))), fun vs ds r G Q sG hv hR q => ?_⟩
    obtain ⟨x, y, rfl, hx, hy, rfl⟩ := hR
    obtain ⟨v, u, rfl, h1, h2⟩ := hv.two
    refine sr ?_ sG q
    rw [Rat.sub_eq_add_neg]
    exact ev_add (evd_var rfl h1) (ev_neg (evd_var rfl h2)) hx hy.neg
abbrev smultiply : Stmt := top 13
theorem scmultiply : FnScope ["first", "second"] ["first", "second"] (defScope smultiply) := ⟨rfl, rfl, rfl, by decide +kernel, rfl, by decide +kernel, by decide +kernel⟩
theorem lk_multiply_first : (defScope smultiply).names.lookup ("first" : Str) = some .local := by decide +kernel
theorem lk_multiply_second : (defScope smultiply).names.lookup ("second" : Str) = some .local := by decide +kernel
theorem gk_multiply_fraction : (defScope smultiply).names.lookup ("fraction" : Str) = some .globalImplicit := by decide +kernel
theorem has_multiply (F : Fun K "multiply" "multiply" smultiply f fd) (m : mg "multiply" = some (.ref f)) (hfraction : Has P w K mg base "fraction" 2 ["numerator", "denominator"] (spR K RFrac)) : Has P w K mg base "multiply" 3 ["first", "second"] (spR K RMul) :=
  has_pure F m (F.binds fun _ _ _ _ _ _ us hl => match us, hl with | [_, _], _ => rfl) scmultiply (fun ds r ⟨_, _, e, _⟩ => by rw [e]; rfl) fun cdv A outer s H E hr => by
    refine ⟨_, (pss_one (ps_ret (pe_c hfraction (hr.mono (by decide)) gk_multiply_fraction (pa_cons (pe_op op_mulI (pe_ix (ix_seqK (K := K) rfl) (pv 0 rfl (Or.inl lk_multiply_first)) pe_int (fun _ _ => rfl)) (pe_ix (ix_seqK (K := K) rfl) (pv 1 rfl (Or.inl lk_multiply_second)) pe_int (fun _ _ => rfl))) (pa_cons (pe_op op_mulI (pe_ix (ix_seqK (K := K) rfl) (pv 0 rfl (Or.inl lk_multiply_first)) pe_int (fun _ _ => rfl)) (pe_ix (ix_seqK (K := K) rfl) (pv 1 rfl (Or.inl lk_multiply_second)) pe_int (fun _ _ => rfl))) pa_nil))))), fun vs ds r G Q sG hv hR q => ?_⟩
    obtain ⟨x, y, rfl, hx, hy, rfl⟩ := hR
    obtain ⟨v, u, rfl, h1, h2⟩ := hv.two
    refine sr ?_ sG q
    rw [mul_eq]
    have e0 : EvD K (tVar 0) (start ["first", "second"] [v, u]) G (fr x) := evd_var rfl h1
    have e1 : EvD K (tVar 1) (start ["first", "second"] [v, u]) G (fr y) := evd_var rfl h2
    exact ev_frac (evd_mul (ev_num e0) (ev_num e1) (mulOk hx.num hy.num)) (evd_mul (ev_den e0) (ev_den e1) (mulOk hx.den hy.den)) (dens_ne x y) (szMul hx.num hy.num) (szMul hx.den hy.den)
abbrev s_law_mul : Stmt := top 40
theorem sc_law_mul : FnScope ["_law_one", "_law_other"] ["_law_one", "_law_other"] (defScope s_law_mul) := ⟨rfl, rfl, rfl, by decide +kernel, rfl, by decide +kernel, by decide +kernel⟩
theorem lk__law_mul__law_one : (defScope s_law_mul).names.lookup ("_law_one" : Str) = some .local := by decide +kernel
theorem lk__law_mul__law_other : (defScope s_law_mul).names.lookup ("_law_other" : Str) = some .local := by decide +kernel
theorem gk__law_mul__law_frac : (defScope s_law_mul).names.lookup ("_law_frac" : Str) = some .globalImplicit := by decide +kernel
theorem has__law_mul (F : Fun K "_law_mul" "_law_mul" s_law_mul f fd) (m : mg "_law_mul" = some (.ref f)) (h_law_frac : Has P w K mg base "_law_frac" 1 ["_law_top", "_law_bottom"] (spR K RFrac)) : Has P w K mg base "_law_mul" 2 ["_law_one", "_law_other"] (spR K RMul) :=
  has_pure F m (F.binds fun _ _ _ _ _ _ us hl => match us, hl with | [_, _], _ => rfl) sc_law_mul (fun ds r ⟨_, _, e, _⟩ => by rw [e]; rfl) fun cdv A outer s H E hr => by
    refine ⟨_, (pss_one (ps_ret (pe_c h_law_frac (hr.mono (by decide)) gk__law_mul__law_frac (pa_cons (pe_op op_mulI (pe_ix (ix_seqK (K := K) rfl) (pv 0 rfl (Or.inl lk__law_mul__law_one)) pe_int (fun _ _ => rfl)) (pe_ix (ix_seqK (K := K) rfl) (pv 1 rfl (Or.inl lk__law_mul__law_other)) pe_int (fun _ _ => rfl))) (pa_cons (pe_op op_mulI (pe_ix (ix_seqK (K := K) rfl) (pv 0 rfl (Or.inl lk__law_mul__law_one)) pe_int (fun _ _ => rfl)) (pe_ix (ix_seqK (K := K) rfl) (pv 1 rfl (Or.inl lk__law_mul__law_other)) pe_int (fun _ _ => rfl))) pa_nil))))), fun vs ds r G Q sG hv hR q => ?_⟩
    obtain ⟨x, y, rfl, hx, hy, rfl⟩ := hR
    obtain ⟨v, u, rfl, h1, h2⟩ := hv.two
    refine sr ?_ sG q
    rw [mul_eq]
    have e0 : EvD K (tVar 0) (start ["_law_one", "_law_other"] [v, u]) G (fr x) := evd_var rfl h1
    have e1 : EvD K (tVar 1) (start ["_law_one", "_law_other"] [v, u]) G (fr y) := evd_var rfl h2
    exact ev_frac (evd_mul (ev_num e0) (ev_num e1) (mulOk hx.num hy.num)) (evd_mul (ev_den e0) (ev_den e1) (mulOk hx.den hy.den)) (dens_ne x y) (szMul hx.num hy.num) (szMul hx.den hy.den)
abbrev sdivide : Stmt := top 14
theorem scdivide : FnScope ["first", "second"] ["first", "second"] (defScope sdivide) := ⟨rfl, rfl, rfl, by decide +kernel, rfl, by decide +kernel, by decide +kernel⟩
theorem lk_divide_first : (defScope sdivide).names.lookup ("first" : Str) = some .local := by decide +kernel
theorem lk_divide_second : (defScope sdivide).names.lookup ("second" : Str) = some .local := by decide +kernel
theorem gk_divide_fraction : (defScope sdivide).names.lookup ("fraction" : Str) = some .globalImplicit := by decide +kernel
theorem has_divide (F : Fun K "divide" "divide" sdivide f fd) (m : mg "divide" = some (.ref f)) (hfraction : Has P w K mg base "fraction" 2 ["numerator", "denominator"] (spR K RFrac)) : Has P w K mg base "divide" 3 ["first", "second"] (spR K RDiv) :=
  has_pure F m (F.binds fun _ _ _ _ _ _ us hl => match us, hl with | [_, _], _ => rfl) scdivide (fun ds r ⟨_, _, e, _⟩ => by rw [e]; rfl) fun cdv A outer s H E hr => by
    refine ⟨_, (pss_one (ps_ret (pe_c hfraction (hr.mono (by decide)) gk_divide_fraction (pa_cons (pe_op op_mulI (pe_ix (ix_seqK (K := K) rfl) (pv 0 rfl (Or.inl lk_divide_first)) pe_int (fun _ _ => rfl)) (pe_ix (ix_seqK (K := K) rfl) (pv 1 rfl (Or.inl lk_divide_second)) pe_int (fun _ _ => rfl))) (pa_cons (pe_op op_mulI (pe_ix (ix_seqK (K := K) rfl) (pv 0 rfl (Or.inl lk_divide_first)) pe_int (fun _ _ => rfl)) (pe_ix (ix_seqK (K := K) rfl) (pv 1 rfl (Or.inl lk_divide_second)) pe_int (fun _ _ => rfl))) pa_nil))))), fun vs ds r G Q sG hv hR q => ?_⟩
    obtain ⟨x, y, rfl, h0, hx, hy, rfl⟩ := hR
    obtain ⟨v, u, rfl, h1, h2⟩ := hv.two
    refine sr ?_ sG q
    rw [div_eq]
    have e0 : EvD K (tVar 0) (start ["first", "second"] [v, u]) G (fr x) := evd_var rfl h1
    have e1 : EvD K (tVar 1) (start ["first", "second"] [v, u]) G (fr y) := evd_var rfl h2
    exact ev_frac (evd_mul (ev_num e0) (ev_den e1) (mulOk hx.num hy.den)) (evd_mul (ev_den e0) (ev_num e1) (mulOk hx.den hy.num)) (Int.mul_ne_zero (den_ne x) (num_ne h0)) (szMul hx.num hy.den) (szMul hx.den hy.num)
abbrev s_law_div : Stmt := top 41
theorem sc_law_div : FnScope ["_law_one", "_law_other"] ["_law_one", "_law_other"] (defScope s_law_div) := ⟨rfl, rfl, rfl, by decide +kernel, rfl, by decide +kernel, by decide +kernel⟩
theorem lk__law_div__law_one : (defScope s_law_div).names.lookup ("_law_one" : Str) = some .local := by decide +kernel
theorem lk__law_div__law_other : (defScope s_law_div).names.lookup ("_law_other" : Str) = some .local := by decide +kernel
theorem gk__law_div__law_frac : (defScope s_law_div).names.lookup ("_law_frac" : Str) = some .globalImplicit := by decide +kernel
theorem has__law_div (F : Fun K "_law_div" "_law_div" s_law_div f fd) (m : mg "_law_div" = some (.ref f)) (h_law_frac : Has P w K mg base "_law_frac" 1 ["_law_top", "_law_bottom"] (spR K RFrac)) : Has P w K mg base "_law_div" 2 ["_law_one", "_law_other"] (spR K RDiv) :=
  has_pure F m (F.binds fun _ _ _ _ _ _ us hl => match us, hl with | [_, _], _ => rfl) sc_law_div (fun ds r ⟨_, _, e, _⟩ => by rw [e]; rfl) fun cdv A outer s H E hr => by
    refine ⟨_, (pss_one (ps_ret (pe_c h_law_frac (hr.mono (by decide)) gk__law_div__law_frac (pa_cons (pe_op op_mulI (pe_ix (ix_seqK (K := K) rfl) (pv 0 rfl (Or.inl lk__law_div__law_one)) pe_int (fun _ _ => rfl)) (pe_ix (ix_seqK (K := K) rfl) (pv 1 rfl (Or.inl lk__law_div__law_other)) pe_int (fun _ _ => rfl))) (pa_cons (pe_op op_mulI (pe_ix (ix_seqK (K := K) rfl) (pv 0 rfl (Or.inl lk__law_div__law_one)) pe_int (fun _ _ => rfl)) (pe_ix (ix_seqK (K := K) rfl) (pv 1 rfl (Or.inl lk__law_div__law_other)) pe_int (fun _ _ => rfl))) pa_nil))))), fun vs ds r G Q sG hv hR q => ?_⟩
    obtain ⟨x, y, rfl, h0, hx, hy, rfl⟩ := hR
    obtain ⟨v, u, rfl, h1, h2⟩ := hv.two
    refine sr ?_ sG q
    rw [div_eq]
    have e0 : EvD K (tVar 0) (start ["_law_one", "_law_other"] [v, u]) G (fr x) := evd_var rfl h1
    have e1 : EvD K (tVar 1) (start ["_law_one", "_law_other"] [v, u]) G (fr y) := evd_var rfl h2
    exact ev_frac (evd_mul (ev_num e0) (ev_den e1) (mulOk hx.num hy.den)) (evd_mul (ev_den e0) (ev_num e1) (mulOk hx.den hy.num)) (Int.mul_ne_zero (den_ne x) (num_ne h0)) (szMul hx.num hy.den) (szMul hx.den hy.num)
abbrev ssign : Stmt := top 15
theorem scsign : FnScope ["value"] ["value"] (defScope ssign) := ⟨rfl, rfl, rfl, by decide +kernel, rfl, by decide +kernel, by decide +kernel⟩
theorem lk_sign_value : (defScope ssign).names.lookup ("value" : Str) = some .local := by decide +kernel
theorem has_sign (F : Fun K "sign" "sign" ssign f fd) (m : mg "sign" = some (.ref f)) : Has P w K mg base "sign" 1 ["value"] (spR K RSign) :=
  has_pure F m (F.binds fun _ _ _ _ _ _ us hl => match us, hl with | [_], _ => rfl) scsign (fun ds r ⟨_, e, _⟩ => by rw [e]; rfl) fun cdv A outer s H E hr => by
    refine ⟨_, (pss_cons (ps_if (pt_cmpR op_gtI (pe_ix (ix_seqK (K := K) rfl) (pv 0 rfl (Or.inl lk_sign_value)) pe_int (fun _ _ => rfl)) pe_int (nomark _)) (pss_one (ps_ret pe_int)) pss_nil) (pss_cons (ps_if (pt_cmpR op_ltI (pe_ix (ix_seqK (K := K) rfl) (pv 0 rfl (Or.inl lk_sign_value)) pe_int (fun _ _ => rfl)) pe_int (nomark _)) (pss_one (ps_ret (pe_un un_negI pe_int))) pss_nil) (pss_one (ps_ret pe_int)))), fun vs ds r G Q sG hv hR q => ?_⟩
    obtain ⟨x, rfl, rfl⟩ := hR
    obtain ⟨v, rfl, h1⟩ := hv.one
    have e0 : EvD K (tVar 0) (start ["value"] [v]) G (fr x) := evd_var rfl h1
    refine qi (eb_val (evd_gt (ev_num e0) evd_int)) sG fun G1 H1 e1 => ite_by (fun hn => ?_) fun hn => ?_
    · have hp : x.num > 0 := of_decide_eq_true hn
      have : sgn x = 1 := by unfold sgn; rw [if_pos hp]
      rw [this] at q
      exact sr evd_int e1.sub fun v G2 H2 e2 h2 => q v G2 H2 (e1.trans e2) h2
    · have hp : ¬ x.num > 0 := of_decide_eq_false hn
      dsimp only [tNext]
      refine qi (eb_val (evd_lt (ev_num (e0.mono e1.g)) evd_int)) e1.sub fun G2 H2 e2 => ite_by (fun hm => ?_) fun hm => ?_
      · have hq : x.num < 0 := of_decide_eq_true hm
        have : sgn x = -1 := by unfold sgn; rw [if_neg hp, if_pos hq]
        rw [this] at q
        exact sr (evd_neg evd_int) e2.sub fun v G3 H3 e3 h3 => q v G3 H3 ((e1.trans e2).trans e3) h3
      · have hq : ¬ x.num < 0 := of_decide_eq_false hm
        have : sgn x = 0 := by unfold sgn; rw [if_neg hp, if_neg hq]
        rw [this] at q
        dsimp only [tNext]
        exact sr evd_int e2.sub fun v G3 H3 e3 h3 => q v G3 H3 ((e1.trans e2).trans e3) h3
theorem sgn_neg {x : Rat} : sgn x < 0 ↔ x < 0 := by
  unfold sgn
  rw [← num_neg]
  split
  · omega
  · split <;> omega
theorem sub_neg {x y : Rat} : x - y < 0 ↔ x < y := by
  constructor <;> intro h <;> grind
theorem B.subS {n d m e : Nat} {x y : Rat} (h : B n d x) (g : B m e y) : B (n + e + m + d + 1) (d + e) (x - y) := h.sub g (by omega) (by omega)
abbrev scompare : Stmt := top 16
theorem sccompare : FnScope ["first", "second"] ["first", "second"] (defScope scompare) := ⟨rfl, rfl, rfl, by decide +kernel, rfl, by decide +kernel, by decide +kernel⟩
theorem lk_compare_first : (defScope scompare).names.lookup ("first" : Str) = some .local := by decide +kernel
theorem lk_compare_second : (defScope scompare).names.lookup ("second" : Str) = some .local := by decide +kernel
theorem gk_compare_sign : (defScope scompare).names.lookup ("sign" : Str) = some .globalImplicit := by decide +kernel
theorem gk_compare_subtract : (defScope scompare).names.lookup ("subtract" : Str) = some .globalImplicit := by decide +kernel
theorem has_compare (F : Fun K "compare" "compare" scompare f fd) (m : mg "compare" = some (.ref f)) (hsign : Has P w K mg base "sign" 1 ["value"] (spR K RSign)) (hsubtract : Has P w K mg base "subtract" 4 ["first", "second"] (spR K RSub)) : Has P w K mg base "compare" 5 ["first", "second"] (spR K RCmp) :=
  has_pure F m (F.binds fun _ _ _ _ _ _ us hl => match us, hl with | [_, _], _ => rfl) sccompare (fun ds r ⟨_, _, e, _⟩ => by rw [e]; rfl) fun cdv A outer s H E hr => by
    refine ⟨_, (pss_one (ps_ret (pe_c hsign (hr.mono (by decide)) gk_compare_sign (pa_cons (pe_c hsubtract (hr.mono (by decide)) gk_compare_subtract (pa_cons (pv 0 rfl (Or.inl lk_compare_first)) (pa_cons (pv 1 rfl (Or.inl lk_compare_second)) pa_nil))) pa_nil)))), fun vs ds r G Q sG hv hR q => ?_⟩
    obtain ⟨x, y, rfl, hx, hy, rfl⟩ := hR
    obtain ⟨v, u, rfl, h1, h2⟩ := hv.two
    exact sr (ev_sign (ev_sub (evd_var rfl h1) (evd_var rfl h2) hx hy)) sG q
abbrev sis_less : Stmt := top 17
theorem scis_less : FnScope ["first", "second"] ["first", "second"] (defScope sis_less) := ⟨rfl, rfl, rfl, by decide +kernel, rfl, by decide +kernel, by decide +kernel⟩
theorem lk_is_less_first : (defScope sis_less).names.lookup ("first" : Str) = some .local := by decide +kernel
theorem lk_is_less_second : (defScope sis_less).names.lookup ("second" : Str) = some .local := by decide +kernel
theorem gk_is_less_compare : (defScope sis_less).names.lookup ("compare" : Str) = some .globalImplicit := by decide +kernel
theorem has_is_less (F : Fun K "is_less" "is_less" sis_less f fd) (m : mg "is_less" = some (.ref f)) (hcompare : Has P w K mg base "compare" 5 ["first", "second"] (spR K RCmp)) : Has P w K mg base "is_less" 6 ["first", "second"] (spR K RLess) :=
  has_pure F m (F.binds fun _ _ _ _ _ _ us hl => match us, hl with | [_, _], _ => rfl) scis_less (fun ds r ⟨_, _, e, _⟩ => by rw [e]; rfl) fun cdv A outer s H E hr => by
    refine ⟨_, (pss_one (ps_ret (pe_cmpR op_ltI (pe_c hcompare (hr.mono (by decide)) gk_is_less_compare (pa_cons (pv 0 rfl (Or.inl lk_is_less_first)) (pa_cons (pv 1 rfl (Or.inl lk_is_less_second)) pa_nil))) pe_int (nomark _)))), fun vs ds r G Q sG hv hR q => ?_⟩
    obtain ⟨x, y, rfl, hx, hy, rfl⟩ := hR
    obtain ⟨v, u, rfl, h1, h2⟩ := hv.two
    refine sr ((evd_lt (ev_cmp (evd_var rfl h1) (evd_var rfl h2) hx hy) evd_int).to ?_) sG q
    rw [decide_eq_decide.mpr (sgn_neg.trans sub_neg)]
abbrev s_law_less : Stmt := top 42
theorem sc_law_less : FnScope ["_law_one", "_law_other"] ["_law_one", "_law_other"] (defScope s_law_less) := ⟨rfl, rfl, rfl, by decide +kernel, rfl, by decide +kernel, by decide +kernel⟩
theorem lk__law_less__law_one : (defScope s_law_less).names.lookup ("_law_one" : Str) = some .local := by decide +kernel
theorem lk__law_less__law_other : (defScope s_law_less).names.lookup ("_law_other" : Str) = some .local := by decide +kernel
theorem has__law_less (F : Fun K "_law_less" "_law_less" s_law_less f fd) (m : mg "_law_less" = some (.ref f)) : Has P w K mg base "_law_less" 1 ["_law_one", "_law_other"] (spR K RLess) :=
  has_pure F m (F.binds fun _ _ _ _ _ _ us hl => match us, hl with | [_, _], _ => rfl) sc_law_less (fun ds r ⟨_, _, e, _⟩ => by rw [e]; rfl) fun cdv A outer s H E hr => by
    refine ⟨_, (pss_one (ps_ret (pe_cmpR op_ltI (pe_op op_mulI (pe_ix (ix_seqK (K := K) rfl) (pv 0 rfl (Or.inl lk__law_less__law_one)) pe_int (fun _ _ => rfl)) (pe_ix (ix_seqK (K := K) rfl) (pv 1 rfl (Or.inl lk__law_less__law_other)) pe_int (fun _ _ => rfl))) (pe_op op_mulI (pe_ix (ix_seqK (K := K) rfl) (pv 1 rfl (Or.inl lk__law_less__law_other)) pe_int (fun _ _ => rfl)) (pe_ix (ix_seqK (K := K) rfl) (pv 0 rfl (Or.inl lk__law_less__law_one)) pe_int (fun _ _ => rfl))) (nomark _)))), fun vs ds r G Q sG hv hR q => ?_⟩
    obtain ⟨x, y, rfl, hx, hy, rfl⟩ := hR
    obtain ⟨v, u, rfl, h1, h2⟩ := hv.two
    have e0 : EvD K (tVar 0) (start ["_law_one", "_law_other"] [v, u]) G (fr x) := evd_var rfl h1
    have e1 : EvD K (tVar 1) (start ["_law_one", "_law_other"] [v, u]) G (fr y) := evd_var rfl h2
    refine sr ((evd_lt (evd_mul (ev_num e0) (ev_den e1) (mulOk hx.num hy.den)) (evd_mul (ev_num e1) (ev_den e0) (mulOk hy.num hx.den))).to ?_) sG q
    rw [decide_eq_decide.mpr (Rat.lt_iff x y).symm]
theorem ofr_none : isNone (ofr none) = true := rfl
theorem ofr_some {x : Rat} : isNone (ofr (some x)) = false := rfl
theorem fr_mem {xs : List Rat} {i : Nat} {d : PyData} (h : (xs.map fr)[i]? = some d) : ∃ x, xs[i]? = some x ∧ d = fr x := by
  rw [List.getElem?_map] at h
  cases e : xs[i]? with
  | none => (rw [e] at h; cases h)
  | some x => rw [e] at h; exact ⟨x, rfl, (Option.some.inj h).symm⟩
theorem take_snoc {α : Type} {xs : List α} {i : Nat} {x : α} (h : xs[i]? = some x) : xs.take (i + 1) = xs.take i ++ [x] := by
  rw [List.take_add_one, h]; rfl
abbrev sleast_of : Stmt := top 18
theorem scleast_of : FnScope ["values", "best", "value"] ["values"] (defScope sleast_of) := ⟨rfl, rfl, rfl, by decide +kernel, rfl, by decide +kernel, by decide +kernel⟩
theorem lk_least_of_values : (defScope sleast_of).names.lookup ("values" : Str) = some .local := by decide +kernel
theorem lk_least_of_best : (defScope sleast_of).names.lookup ("best" : Str) = some .local := by decide +kernel
theorem lk_least_of_value : (defScope sleast_of).names.lookup ("value" : Str) = some .local := by decide +kernel
theorem gk_least_of_is_less : (defScope sleast_of).names.lookup ("is_less" : Str) = some .globalImplicit := by decide +kernel
theorem has_least_of (F : Fun K "least_of" "least_of" sleast_of f fd) (m : mg "least_of" = some (.ref f)) (his_less : Has P w K mg base "is_less" 6 ["first", "second"] (spR K RLess)) : Has P w K mg base "least_of" 7 ["values"] (spR K RLeast) :=
  has_pure F m (F.binds fun _ _ _ _ _ _ us hl => match us, hl with | [_], _ => rfl) scleast_of (fun ds r ⟨_, e, _⟩ => by rw [e]; rfl) fun cdv A outer s H E hr => by
    refine ⟨_, (pss_cons (ps_set (i := 1) scleast_of.nd rfl (Or.inl lk_least_of_best) pe_non) (pss_cons (ps_for PassesOwn.never rfl (pi_listK (K := K) rfl (pv 0 rfl (Or.inl lk_least_of_values))) (pg_name (i := 2) scleast_of.nd rfl (Or.inl lk_least_of_value)) (pss_one (ps_if (PW.pt (pw_and (pt_cmpR op_notNo (pv 2 rfl (Or.inl lk_least_of_value)) pe_non (nomark _)) (pw_and1 (PW.pt (pw_or (pt_cmpR op_isNo (pv 1 rfl (Or.inl lk_least_of_best)) pe_non (nomark _)) (pw_or1 (pt_val (pe_c his_less (hr.mono (by decide)) gk_least_of_is_less (pa_cons (pv 2 rfl (Or.inl lk_least_of_value)) (pa_cons (pv 1 rfl (Or.inl lk_least_of_best)) pa_nil)))))))))) (pss_one (ps_set (i := 1) scleast_of.nd rfl (Or.inl lk_least_of_best) (pv 2 rfl (Or.inl lk_least_of_value)))) pss_nil))) (pss_one (ps_ret (pv 1 rfl (Or.inl lk_least_of_best)))))), fun vs ds r G Q sG hv hR q => ?_⟩
    obtain ⟨xs, rfl, hl, hx, rfl⟩ := hR
    obtain ⟨v, rfl, h1⟩ := hv.one
    refine qa (K := K) evd_non sG fun v1 G1 H1 e1 g1 => ?_
    obtain rfl := g1.nonIn
    refine q_for (evd_var rfl (h1.mono e1.g)) e1.sub fun G2 H2 e2 => ⟨fun i σ' G' H' => Ext G2 H2 G' H' ∧ ∃ b u, σ' = [some v, some b, u] ∧ Is K G' b (ofr ((xs.take i).foldl leastStep none)), fun i σ' G' H' p => ⟨p.1.g, p.1.sub⟩, ⟨Ext.refl e2.sub, .non, none, rfl, .non⟩, ?_, ?_⟩
    · rintro i d u σ' G' H' hd hu ⟨e, b, u0, rfl, hb⟩
      obtain ⟨x, hxi, rfl⟩ := fr_mem hd
      have sx : Sz x := hx x (List.mem_of_getElem? hxi)
      have hfold : (xs.take (i + 1)).foldl leastStep none = leastStep ((xs.take i).foldl leastStep none) x := by rw [take_snoc hxi, List.foldl_append]; rfl
      have eb : EvD K (tVar 1) [some v, some b, some u] G' (ofr ((xs.take i).foldl leastStep none)) := evd_var rfl hb
      have eu : EvD K (tVar 2) [some v, some b, some u] G' (fr x) := evd_var rfl hu
      have mem : ∀ y, (xs.take i).foldl leastStep none = some y → Sz y := fun y hy => hx y (List.mem_of_mem_take (least_some hy).1)
      generalize (xs.take i).foldl leastStep none = o at *
      have lt : EvB (tAnd (tTest (tOp rNotNo (tVar 2) (tC .non))) (tOr (tTest (tOp rIsNo (tVar 1) (tC .non))) (tB (tCall (spR K RLess) [] E0 (tCons (tVar 2) (tCons (tVar 1) tNil)))))) [some v, some b, some u] G' (match o with | none => true | some y => decide (x < y)) := by
        refine EvB.to (eb_and (eb_val (evd_notN eu)) fun _ => ?_) (b := true && (match o with | none => true | some y => decide (x < y))) (Bool.true_and _)
        cases o with
        | none => exact eb_or (b := true) (eb_val (evd_isN eb)) fun h => by cases h
        | some y => exact eb_or (eb_val (evd_isN eb)) fun _ => eb_valB (ev_less eu eb sx (mem y rfl))
      refine si lt e.sub fun G3 H3 e3 => ite_by (fun ht => ?_) fun ht => ?_
      · refine sa (eu.mono e3.g) e3.sub fun v4 G4 H4 e4 g4 => ⟨G4, (e.trans e3).trans e4, v4, some u, rfl, ?_⟩
        rw [hfold]
        cases o with
        | none => exact g4
        | some y =>
          show Is K G4 v4 (ofr (if x < y then some x else some y))
          rw [if_pos (of_decide_eq_true ht)]; exact g4
      · refine ⟨G3, e.trans e3, b, some u, rfl, ?_⟩
        rw [hfold]
        cases o with
        | none => cases ht
        | some y =>
          show Is K G3 b (ofr (if x < y then some x else some y))
          rw [if_neg (of_decide_eq_false ht)]; exact hb.mono e3.g
    · rintro σ' G' H' ⟨e, b, u0, rfl, hb⟩
      rw [List.length_map, List.take_length] at hb
      refine sr (evd_var rfl hb) e.sub fun v G3 H3 e3 h3 => ?_
      exact q v G3 H3 (((e1.trans e2).trans e).trans e3) h3
abbrev s_law_least : Stmt := top 43
theorem sc_law_least : FnScope ["_law_values", "_law_best", "_law_value"] ["_law_values"] (defScope s_law_least) := ⟨rfl, rfl, rfl, by decide +kernel, rfl, by decide +kernel, by decide +kernel⟩
theorem lk__law_least__law_values : (defScope s_law_least).names.lookup ("_law_values" : Str) = some .local := by decide +kernel
theorem lk__law_least__law_best : (defScope s_law_least).names.lookup ("_law_best" : Str) = some .local := by decide +kernel
theorem lk__law_least__law_value : (defScope s_law_least).names.lookup ("_law_value" : Str) = some .local := by decide +kernel
theorem gk__law_least__law_less : (defScope s_law_least).names.lookup ("_law_less" : Str) = some .globalImplicit := by decide +kernel
theorem has__law_least (F : Fun K "_law_least" "_law_least" s_law_least f fd) (m : mg "_law_least" = some (.ref f)) (h_law_less : Has P w K mg base "_law_less" 1 ["_law_one", "_law_other"] (spR K RLess)) : Has P w K mg base "_law_least" 2 ["_law_values"] (spR K RLeast) :=
  has_pure F m (F.binds fun _ _ _ _ _ _ us hl => match us, hl with | [_], _ => rfl) sc_law_least (fun ds r ⟨_, e, _⟩ => by rw [e]; rfl) fun cdv A outer s H E hr => by
    refine ⟨_, (pss_cons (ps_set (i := 1) sc_law_least.nd rfl (Or.inl lk__law_least__law_best) pe_non) (pss_cons (ps_for PassesOwn.never rfl (pi_listK (K := K) rfl (pv 0 rfl (Or.inl lk__law_least__law_values))) (pg_name (i := 2) sc_law_least.nd rfl (Or.inl lk__law_least__law_value)) (pss_one (ps_if (PW.pt (pw_or (pt_cmpR op_isNo (pv 1 rfl (Or.inl lk__law_least__law_best)) pe_non (nomark _)) (pw_or1 (pt_val (pe_c h_law_less (hr.mono (by decide)) gk__law_least__law_less (pa_cons (pv 2 rfl (Or.inl lk__law_least__law_value)) (pa_cons (pv 1 rfl (Or.inl lk__law_least__law_best)) pa_nil))))))) (pss_one (ps_set (i := 1) sc_law_least.nd rfl (Or.inl lk__law_least__law_best) (pv 2 rfl (Or.inl lk__law_least__law_value)))) pss_nil))) (pss_one (ps_ret (pv 1 rfl (Or.inl lk__law_least__law_best)))))), fun vs ds r G Q sG hv hR q => ?_⟩
    obtain ⟨xs, rfl, hl, hx, rfl⟩ := hR
    obtain ⟨v, rfl, h1⟩ := hv.one
    refine qa (K := K) evd_non sG fun v1 G1 H1 e1 g1 => ?_
    obtain rfl := g1.nonIn
    refine q_for (evd_var rfl (h1.mono e1.g)) e1.sub fun G2 H2 e2 => ⟨fun i σ' G' H' => Ext G2 H2 G' H' ∧ ∃ b u, σ' = [some v, some b, u] ∧ Is K G' b (ofr ((xs.take i).foldl leastStep none)), fun i σ' G' H' p => ⟨p.1.g, p.1.sub⟩, ⟨Ext.refl e2.sub, .non, none, rfl, .non⟩, ?_, ?_⟩
    · rintro i d u σ' G' H' hd hu ⟨e, b, u0, rfl, hb⟩
      obtain ⟨x, hxi, rfl⟩ := fr_mem hd
      have sx : Sz x := hx x (List.mem_of_getElem? hxi)
      have hfold : (xs.take (i + 1)).foldl leastStep none = leastStep ((xs.take i).foldl leastStep none) x := by rw [take_snoc hxi, List.foldl_append]; rfl
      have eb : EvD K (tVar 1) [some v, some b, some u] G' (ofr ((xs.take i).foldl leastStep none)) := evd_var rfl hb
      have eu : EvD K (tVar 2) [some v, some b, some u] G' (fr x) := evd_var rfl hu
      have mem : ∀ y, (xs.take i).foldl leastStep none = some y → Sz y := fun y hy => hx y (List.mem_of_mem_take (least_some hy).1)
      generalize (xs.take i).foldl leastStep none = o at *
      have lt : EvB (tOr (tTest (tOp rIsNo (tVar 1) (tC .non))) (tB (tCall (spR K RLess) [] E0 (tCons (tVar 2) (tCons (tVar 1) tNil))))) [some v, some b, some u] G' (match o with | none => true | some y => decide (x < y)) := by
        cases o with
        | none => exact eb_or (b := true) (eb_val (evd_isN eb)) fun h => by cases h
        | some y => exact eb_or (eb_val (evd_isN eb)) fun _ => eb_valB (ev_less eu eb sx (mem y rfl))
      refine si lt e.sub fun G3 H3 e3 => ite_by (fun ht => ?_) fun ht => ?_
      · refine sa (eu.mono e3.g) e3.sub fun v4 G4 H4 e4 g4 => ⟨G4, (e.trans e3).trans e4, v4, some u, rfl, ?_⟩
        rw [hfold]
        cases o with
        | none => exact g4
        | some y =>
          show Is K G4 v4 (ofr (if x < y then some x else some y))
          rw [if_pos (of_decide_eq_true ht)]; exact g4
      · refine ⟨G3, e.trans e3, b, some u, rfl, ?_⟩
        rw [hfold]
        cases o with
        | none => cases ht
        | some y =>
          show Is K G3 b (ofr (if x < y then some x else some y))
          rw [if_neg (of_decide_eq_false ht)]; exact hb.mono e3.g
    · rintro σ' G' H' ⟨e, b, u0, rfl, hb⟩
      rw [List.length_map, List.take_length] at hb
      refine sr (evd_var rfl hb) e.sub fun v G3 H3 e3 h3 => ?_
      exact q v G3 H3 (((e1.trans e2).trans e).trans e3) h3
abbrev s_law_greatest : Stmt := top 44
theorem sc_law_greatest : FnScope ["_law_values", "_law_best", "_law_value"] ["_law_values"] (defScope s_law_greatest) := ⟨rfl, rfl, rfl, by decide +kernel, rfl, by decide +kernel, by decide +kernel⟩
theorem lk__law_greatest__law_values : (defScope s_law_greatest).names.lookup ("_law_values" : Str) = some .local := by decide +kernel
theorem lk__law_greatest__law_best : (defScope s_law_greatest).names.lookup ("_law_best" : Str) = some .local := by decide +kernel
theorem lk__law_greatest__law_value : (defScope s_law_greatest).names.lookup ("_law_value" : Str) = some .local := by decide +kernel
theorem gk__law_greatest__law_less : (defScope s_law_greatest).names.lookup ("_law_less" : Str) = some .globalImplicit := by decide +kernel
theorem has__law_greatest (F : Fun K "_law_greatest" "_law_greatest" s_law_greatest f fd) (m : mg "_law_greatest" = some (.ref f)) (h_law_less : Has P w K mg base "_law_less" 1 ["_law_one", "_law_other"] (spR K RLess)) : Has P w K mg base "_law_greatest" 2 ["_law_values"] (spR K RGreatest) :=
  has_pure F m (F.binds fun _ _ _ _ _ _ us hl => match us, hl with | [_], _ => rfl) sc_law_greatest (fun ds r ⟨_, e, _⟩ => by rw [e]; rfl) fun cdv A outer s H E hr => by
    refine ⟨_, (pss_cons (ps_set (i := 1) sc_law_greatest.nd rfl (Or.inl lk__law_greatest__law_best) pe_non) (pss_cons (ps_for PassesOwn.never rfl (pi_listK (K := K) rfl (pv 0 rfl (Or.inl lk__law_greatest__law_values))) (pg_name (i := 2) sc_law_greatest.nd rfl (Or.inl lk__law_greatest__law_value)) (pss_one (ps_if (PW.pt (pw_or (pt_cmpR op_isNo (pv 1 rfl (Or.inl lk__law_greatest__law_best)) pe_non (nomark _)) (pw_or1 (pt_val (pe_c h_law_less (hr.mono (by decide)) gk__law_greatest__law_less (pa_cons (pv 1 rfl (Or.inl lk__law_greatest__law_best)) (pa_cons (pv 2 rfl (Or.inl lk__law_greatest__law_value)) pa_nil))))))) (pss_one (ps_set (i := 1) sc_law_greatest.nd rfl (Or.inl lk__law_greatest__law_best) (pv 2 rfl (Or.inl lk__law_greatest__law_value)))) pss_nil))) (pss_one (ps_ret (pv 1 rfl (Or.inl lk__law_greatest__law_best)))))), fun vs ds r G Q sG hv hR q => ?_⟩
    obtain ⟨xs, rfl, hl, hx, rfl⟩ := hR
    obtain ⟨v, rfl, h1⟩ := hv.one
    refine qa (K := K) evd_non sG fun v1 G1 H1 e1 g1 => ?_
    obtain rfl := g1.nonIn
    refine q_for (evd_var rfl (h1.mono e1.g)) e1.sub fun G2 H2 e2 => ⟨fun i σ' G' H' => Ext G2 H2 G' H' ∧ ∃ b u, σ' = [some v, some b, u] ∧ Is K G' b (ofr ((xs.take i).foldl greatestStep none)), fun i σ' G' H' p => ⟨p.1.g, p.1.sub⟩, ⟨Ext.refl e2.sub, .non, none, rfl, .non⟩, ?_, ?_⟩
    · rintro i d u σ' G' H' hd hu ⟨e, b, u0, rfl, hb⟩
      obtain ⟨x, hxi, rfl⟩ := fr_mem hd
      have sx : Sz x := hx x (List.mem_of_getElem? hxi)
      have hfold : (xs.take (i + 1)).foldl greatestStep none = greatestStep ((xs.take i).foldl greatestStep none) x := by rw [take_snoc hxi, List.foldl_append]; rfl
      have eb : EvD K (tVar 1) [some v, some b, some u] G' (ofr ((xs.take i).foldl greatestStep none)) := evd_var rfl hb
      have eu : EvD K (tVar 2) [some v, some b, some u] G' (fr x) := evd_var rfl hu
      have mem : ∀ y, (xs.take i).foldl greatestStep none = some y → Sz y := fun y hy => hx y (List.mem_of_mem_take (greatest_some hy).1)
      generalize (xs.take i).foldl greatestStep none = o at *
      have lt : EvB (tOr (tTest (tOp rIsNo (tVar 1) (tC .non))) (tB (tCall (spR K RLess) [] E0 (tCons (tVar 1) (tCons (tVar 2) tNil))))) [some v, some b, some u] G' (match o with | none => true | some y => decide (y < x)) := by
        cases o with
        | none => exact eb_or (b := true) (eb_val (evd_isN eb)) fun h => by cases h
        | some y => exact eb_or (eb_val (evd_isN eb)) fun _ => eb_valB (ev_less eb eu (mem y rfl) sx)
      refine si lt e.sub fun G3 H3 e3 => ite_by (fun ht => ?_) fun ht => ?_
      · refine sa (eu.mono e3.g) e3.sub fun v4 G4 H4 e4 g4 => ⟨G4, (e.trans e3).trans e4, v4, some u, rfl, ?_⟩
        rw [hfold]
        cases o with
        | none => exact g4
        | some y =>
          show Is K G4 v4 (ofr (if y < x then some x else some y))
          rw [if_pos (of_decide_eq_true ht)]; exact g4
      · refine ⟨G3, e.trans e3, b, some u, rfl, ?_⟩
        rw [hfold]
        cases o with
        | none => cases ht
        | some y =>
          show Is K G3 b (ofr (if y < x then some x else some y))
          rw [if_neg (of_decide_eq_false ht)]; exact hb.mono e3.g
    · rintro σ' G' H' ⟨e, b, u0, rfl, hb⟩
      rw [List.length_map, List.take_length] at hb
      refine sr (evd_var rfl hb) e.sub fun v G3 H3 e3 h3 => ?_
      exact q v G3 H3 (((e1.trans e2).trans e).trans e3) h3
end
end Rt
namespace Rt
open PySem PySem.Spec PyProof.Rows L2 Evl
/-! ### elements, rays, maps as data -/
def El.kind : El → Str
  | .gap _ => "gap"
  | .lens _ _ => "lens"
  | .prism _ => "prism"
  | .afocal _ => "afocal"
  | .stop _ _ => "stop"
abbrev El.dat : El → PyData
  | .gap l => .tuple [.str "gap", fr l]
  | .lens p c => .tuple [.str "lens", fr p, fr c]
  | .prism d => .tuple [.str "prism", fr d]
  | .afocal m => .tuple [.str "afocal", fr m]
  | .stop lo hi => .tuple [.str "stop", ofr lo, ofr hi]
abbrev rayd (r : Ray) : PyData := .tuple [fr r.1, fr r.2]
abbrev mpd (x : Mp) : PyData := .tuple [fr x.a, fr x.b, fr x.c, fr x.d, fr x.e, fr x.f]
abbrev traind (t : List El) : PyData := .list (t.map El.dat)
theorem n_lg : ¬ (("lens" : Str) = "gap") := by decide +kernel
theorem n_pg : ¬ (("prism" : Str) = "gap") := by decide +kernel
theorem n_pl : ¬ (("prism" : Str) = "lens") := by decide +kernel
theorem n_ag : ¬ (("afocal" : Str) = "gap") := by decide +kernel
theorem n_al : ¬ (("afocal" : Str) = "lens") := by decide +kernel
theorem n_ap : ¬ (("afocal" : Str) = "prism") := by decide +kernel
theorem n_sg : ¬ (("stop" : Str) = "gap") := by decide +kernel
theorem n_sl : ¬ (("stop" : Str) = "lens") := by decide +kernel
theorem n_sp : ¬ (("stop" : Str) = "prism") := by decide +kernel
theorem n_sa : ¬ (("stop" : Str) = "afocal") := by decide +kernel
theorem n_gs : ¬ (("gap" : Str) = "stop") := by decide +kernel
theorem n_ls : ¬ (("lens" : Str) = "stop") := by decide +kernel
theorem n_ps : ¬ (("prism" : Str) = "stop") := by decide +kernel
theorem n_as : ¬ (("afocal" : Str) = "stop") := by decide +kernel
/-- an element's sizes and its being one -/
structure El.good (e : El) : Prop where
  small : e.small
  ok : e.ok
def Good (t : List El) : Prop := t.length ≤ 8 ∧ ∀ e ∈ t, e.good
theorem Good.take {t : List El} (h : Good t) (i : Nat) : Good (t.take i) := ⟨Nat.le_trans (List.length_take_le' ..) h.1, fun e he => h.2 e (List.mem_of_mem_take he)⟩
/-- a map's sizes -/
structure Mp.bits (x : Mp) (n k : Nat) : Prop where
  a : B n k x.a
  b : B n k x.b
  c : B n k x.c
  d : B n k x.d
  e : B n k x.e
  f : B n k x.f
theorem Mp.size.bits {x : Mp} {D N n d : Nat} (h : x.size D N) (hD : D ≠ 0) (h1 : N < 2 ^ n) (h2 : D < 2 ^ d) : x.bits n d :=
  ⟨h.a.bits hD h1 h2, h.b.bits hD h1 h2, h.c.bits hD h1 h2, h.d.bits hD h1 h2, h.e.bits hD h1 h2, h.f.bits hD h1 h2⟩
theorem bits_mp {e : El} (h : e.small) : e.mp.bits 10 6 := (size_mp h).bits (by decide) (by decide) (by decide)
theorem bits_transfer {t : List El} (h : Good t) : (transfer t).bits 90 45 := by
  refine (size_transfer fun e he => (h.2 e he).small).bits (Nat.ne_of_gt (Nat.pow_pos (by decide))) ?_ ?_
  · exact Nat.lt_of_le_of_lt (Nat.mul_le_mul_left 4 (Nat.pow_le_pow_right (by decide) h.1)) (by decide)
  · exact Nat.lt_of_le_of_lt (Nat.pow_le_pow_right (by decide) h.1) (by decide)
theorem C.b63 {x : Rat} (h : C 6 48 x) : B 6 3 x := h.bits (by decide) (by decide) (by decide)
theorem C.b53 {x : Rat} (h : C 6 24 x) : B 6 3 x := (h.mono (by decide)).b63
def RayB (r : Ray) : Prop := B 700 700 r.1 ∧ B 700 700 r.2
theorem app_bits {x : Mp} {r : Ray} (h : x.bits 90 45) (hr : RayB r) : B 1600 1600 (x.app r).1 ∧ B 1600 1600 (x.app r).2 := by
  have p : ∀ {u v t : Rat}, B 90 45 u → B 90 45 v → B 90 45 t → B 1600 1600 (u * r.1 + v * r.2 + t) := fun a b c => (((a.mul hr.1).add (b.mul hr.2) (k := 1540) (by decide) (by decide)).add c (k := 1600) (by decide) (by decide)).mono (by decide) (by decide)
  exact ⟨p h.a h.b h.e, p h.c h.d h.f⟩
theorem out_bits {t : List El} {r : Ray} (h : Good t) (hr : RayB r) : B 1600 1600 (out t r).1 ∧ B 1600 1600 (out t r).2 := by
  rw [out_eq]; exact app_bits (bits_transfer h) hr
/-! ### promises -/
def REmap : Rl := fun ds r => ∃ e : El, ds = [e.dat] ∧ e.good ∧ r = mpd e.mp
def RWeighted : Rl := fun ds r => ∃ x y z u, ds = [fr x, fr y, fr z, fr u] ∧ (Sz x ∧ Sz y ∧ Sz z ∧ Sz u) ∧ Sz (x * y) ∧ Sz (z * u) ∧ r = fr (x * y + z * u)
def RApply : Rl := fun ds r => ∃ (m : Mp) (y : Ray), ds = [mpd m, rayd y] ∧ m.bits 90 45 ∧ RayB y ∧ r = rayd (m.app y)
def RComp : Rl := fun ds r => ∃ x y : Mp, ds = [mpd x, mpd y] ∧ x.bits 90 45 ∧ y.bits 10 6 ∧ r = mpd (x.comp y)
def RTransfer : Rl := fun ds r => ∃ t, ds = [traind t] ∧ Good t ∧ r = mpd (transfer t)
/-- a module's object by its name -/
theorem pe_gref {X : Cx} {x : Str} {a : Addr} {pos : Pos} (hg : Gl X x) (hm : X.mg x = some (.ref a)) (hd : (x == ("__debug__" : Str)) = false := by decide) : PE X (.Name x pos) (tC (.ref a)) := pe_glob (v := .ref a) hg hm rfl hd
section
variable {w : World} {P : Program} {K : PySem.W.Frag} {mg : Str → Option Value} {base : Heap} {f : Addr} {fd : FuncData}
section
variable {G : Hp} {σ : L2.St} {E : XK} {ta tb tc td : TE} {x y z u : Rat}
theorem ev_weighted (ha : EvD K ta σ G (fr x)) (hb : EvD K tb σ G (fr y)) (hc : EvD K tc σ G (fr z)) (hd : EvD K td σ G (fr u)) (hx : Sz x) (hy : Sz y) (hz : Sz z) (hu : Sz u) (h1 : Sz (x * y)) (h2 : Sz (z * u)) :
    EvD K (tCall (spR K RWeighted) [] E (tCons ta (tCons tb (tCons tc (tCons td tNil))))) σ G (fr (x * y + z * u)) := evd_call (es_cons ha (es_cons hb (es_cons hc (es_cons hd es_nil)))) ⟨x, y, z, u, rfl, ⟨hx, hy, hz, hu⟩, h1, h2, rfl⟩
theorem eb_kind {e : El} {k : Str} (h : EvD K ta σ G e.dat) : EvB (tTest (tOp (rEqU K) (tOp (rIx K) ta (tC (.int 0))) (tC (.str k)))) σ G (decide (e.kind = k)) := by
  cases e <;> exact eb_val (evd_eqS (evd_ixT h evd_int rfl) evd_str)
theorem eb_kindN {e : El} {k : Str} (h : EvD K ta σ G e.dat) : EvB (tTest (tOp (rNeU K) (tOp (rIx K) ta (tC (.int 0))) (tC (.str k)))) σ G (!decide (e.kind = k)) := by
  cases e <;> exact eb_val (evd_neS (evd_ixT h evd_int rfl) evd_str)
end
abbrev selement_map : Stmt := top 21
theorem scelement_map : FnScope ["element"] ["element"] (defScope selement_map) := ⟨rfl, rfl, rfl, by decide +kernel, rfl, by decide +kernel, by decide +kernel⟩
theorem lk_element_map_element : (defScope selement_map).names.lookup ("element" : Str) = some .local := by decide +kernel
theorem gk_element_map_IDENTITY : (defScope selement_map).names.lookup ("IDENTITY" : Str) = some .globalImplicit := by decide +kernel
theorem gk_element_map_ZERO : (defScope selement_map).names.lookup ("ZERO" : Str) = some .globalImplicit := by decide +kernel
theorem gk_element_map_divide : (defScope selement_map).names.lookup ("divide" : Str) = some .globalImplicit := by decide +kernel
theorem gk_element_map_ONE : (defScope selement_map).names.lookup ("ONE" : Str) = some .globalImplicit := by decide +kernel
theorem gk_element_map_multiply : (defScope selement_map).names.lookup ("multiply" : Str) = some .globalImplicit := by decide +kernel
theorem gk_element_map_negative : (defScope selement_map).names.lookup ("negative" : Str) = some .globalImplicit := by decide +kernel
theorem has_element_map (F : Fun K "element_map" "element_map" selement_map f fd) (m : mg "element_map" = some (.ref f)) {aO aZ aI : Addr} (mONE : mg "ONE" = some (.ref aO)) (mZERO : mg "ZERO" = some (.ref aZ)) (mIDENTITY : mg "IDENTITY" = some (.ref aI)) (cO : ∀ G, Is K G (.ref aO) (fr 1)) (cZ : ∀ G, Is K G (.ref aZ) (fr 0)) (cI : ∀ G, Is K G (.ref aI) (mpd .id))
    (hnegative : Has P w K mg base "negative" 1 ["value"] (spR K RNeg)) (hmultiply : Has P w K mg base "multiply" 3 ["first", "second"] (spR K RMul)) (hdivide : Has P w K mg base "divide" 3 ["first", "second"] (spR K RDiv)) : Has P w K mg base "element_map" 4 ["element"] (spR K REmap) :=
  has_pure F m (F.binds fun _ _ _ _ _ _ us hl => match us, hl with | [_], _ => rfl) scelement_map (fun ds r ⟨_, e, _⟩ => by rw [e]; rfl) fun cdv A outer s H E hr => by
    refine ⟨_, (pss_cons (ps_if (pt_cmpR (op_eqK (K := K) rfl hr.units) (pe_ix (ix_seqK (K := K) rfl) (pv 0 rfl (Or.inl lk_element_map_element)) pe_int (fun _ _ => rfl)) pe_str (nomark _)) (pss_one (ps_ret (pe_tup (pa_cons (pe_gref gk_element_map_ONE mONE) (pa_cons (pe_ix (ix_seqK (K := K) rfl) (pv 0 rfl (Or.inl lk_element_map_element)) pe_int (fun _ _ => rfl)) (pa_cons (pe_gref gk_element_map_ZERO mZERO) (pa_cons (pe_gref gk_element_map_ONE mONE) (pa_cons (pe_gref gk_element_map_ZERO mZERO) (pa_cons (pe_gref gk_element_map_ZERO mZERO) pa_nil))))))))) pss_nil) (pss_cons (ps_if (pt_cmpR (op_eqK (K := K) rfl hr.units) (pe_ix (ix_seqK (K := K) rfl) (pv 0 rfl (Or.inl lk_element_map_element)) pe_int (fun _ _ => rfl)) pe_str (nomark _)) (pss_one (ps_ret (pe_tup (pa_cons (pe_gref gk_element_map_ONE mONE) (pa_cons (pe_gref gk_element_map_ZERO mZERO) (pa_cons (pe_c hnegative (hr.mono (by decide)) gk_element_map_negative (pa_cons (pe_ix (ix_seqK (K := K) rfl) (pv 0 rfl (Or.inl lk_element_map_element)) pe_int (fun _ _ => rfl)) pa_nil)) (pa_cons (pe_gref gk_element_map_ONE mONE) (pa_cons (pe_gref gk_element_map_ZERO mZERO) (pa_cons (pe_c hmultiply (hr.mono (by decide)) gk_element_map_multiply (pa_cons (pe_ix (ix_seqK (K := K) rfl) (pv 0 rfl (Or.inl lk_element_map_element)) pe_int (fun _ _ => rfl)) (pa_cons (pe_ix (ix_seqK (K := K) rfl) (pv 0 rfl (Or.inl lk_element_map_element)) pe_int (fun _ _ => rfl)) pa_nil))) pa_nil))))))))) pss_nil) (pss_cons (ps_if (pt_cmpR (op_eqK (K := K) rfl hr.units) (pe_ix (ix_seqK (K := K) rfl) (pv 0 rfl (Or.inl lk_element_map_element)) pe_int (fun _ _ => rfl)) pe_str (nomark _)) (pss_one (ps_ret (pe_tup (pa_cons (pe_gref gk_element_map_ONE mONE) (pa_cons (pe_gref gk_element_map_ZERO mZERO) (pa_cons (pe_gref gk_element_map_ZERO mZERO) (pa_cons (pe_gref gk_element_map_ONE mONE) (pa_cons (pe_gref gk_element_map_ZERO mZERO) (pa_cons (pe_ix (ix_seqK (K := K) rfl) (pv 0 rfl (Or.inl lk_element_map_element)) pe_int (fun _ _ => rfl)) pa_nil))))))))) pss_nil) (pss_cons (ps_if (pt_cmpR (op_eqK (K := K) rfl hr.units) (pe_ix (ix_seqK (K := K) rfl) (pv 0 rfl (Or.inl lk_element_map_element)) pe_int (fun _ _ => rfl)) pe_str (nomark _)) (pss_one (ps_ret (pe_tup (pa_cons (pe_ix (ix_seqK (K := K) rfl) (pv 0 rfl (Or.inl lk_element_map_element)) pe_int (fun _ _ => rfl)) (pa_cons (pe_gref gk_element_map_ZERO mZERO) (pa_cons (pe_gref gk_element_map_ZERO mZERO) (pa_cons (pe_c hdivide (hr.mono (by decide)) gk_element_map_divide (pa_cons (pe_gref gk_element_map_ONE mONE) (pa_cons (pe_ix (ix_seqK (K := K) rfl) (pv 0 rfl (Or.inl lk_element_map_element)) pe_int (fun _ _ => rfl)) pa_nil))) (pa_cons (pe_gref gk_element_map_ZERO mZERO) (pa_cons (pe_gref gk_element_map_ZERO mZERO) pa_nil))))))))) pss_nil) (pss_one (ps_ret (pe_gref gk_element_map_IDENTITY mIDENTITY))))))), fun vs ds r G Q sG hv hR q => ?_⟩
    obtain ⟨e, rfl, hg, rfl⟩ := hR
    obtain ⟨v, rfl, h1⟩ := hv.one
    have e0 : ∀ {G1}, Ex G G1 → EvD K (tVar 0) (start ["element"] [v]) G1 e.dat := fun x => evd_var rfl (h1.mono x)
    have o : ∀ {G1 σ}, EvD K (tC (.ref aO)) σ G1 (fr 1) := evd_cst cO
    have z : ∀ {G1 σ}, EvD K (tC (.ref aZ)) σ G1 (fr 0) := evd_cst cZ
    have o1 : Sz 1 := (B.one (n := 1) (d := 1) (by decide) (by decide)).sz
    refine qi (eb_kind (e0 (Ex.refl _))) sG fun G1 H1 e1 => ?_
    cases e with
    | gap l => exact ite_yes (decide_eq_true rfl) (sr (evd_tup (es_cons o (es_cons (evd_ixT (e0 e1.g) evd_int rfl) (es_cons z (es_cons o (es_cons z (es_cons z es_nil))))))) e1.sub fun v G2 H2 e2 h2 => q v G2 H2 (e1.trans e2) h2)
    | lens p c =>
      refine ite_no (decide_eq_false n_lg) ?_
      dsimp only [tNext]
      refine qi (eb_kind (e0 e1.g)) e1.sub fun G2 H2 e2 => ite_yes (decide_eq_true rfl) ?_
      have x : EvD K (tVar 0) (start ["element"] [v]) G2 (El.dat (.lens p c)) := e0 (e1.trans e2).g
      have hp : Sz p := hg.small.1.b53.sz
      have hc : Sz c := hg.small.2.b53.sz
      exact sr (evd_tup (es_cons o (es_cons z (es_cons (ev_neg (evd_ixT x evd_int rfl)) (es_cons o (es_cons z (es_cons (ev_mul (evd_ixT x evd_int rfl) (evd_ixT x evd_int rfl) hp hc) es_nil))))))) e2.sub fun v G3 H3 e3 h3 => q v G3 H3 ((e1.trans e2).trans e3) h3
    | prism d =>
      refine ite_no (decide_eq_false n_pg) ?_
      dsimp only [tNext]
      refine qi (eb_kind (e0 e1.g)) e1.sub fun G2 H2 e2 => ite_no (decide_eq_false n_pl) ?_
      dsimp only [tNext]
      refine qi (eb_kind (e0 (e1.trans e2).g)) e2.sub fun G3 H3 e3 => ite_yes (decide_eq_true rfl) ?_
      have x : EvD K (tVar 0) (start ["element"] [v]) G3 (El.dat (.prism d)) := e0 ((e1.trans e2).trans e3).g
      exact sr (evd_tup (es_cons o (es_cons z (es_cons z (es_cons o (es_cons z (es_cons (evd_ixT x evd_int rfl) es_nil))))))) e3.sub fun v G4 H4 e4 h4 => q v G4 H4 (((e1.trans e2).trans e3).trans e4) h4
    | afocal m =>
      refine ite_no (decide_eq_false n_ag) ?_
      dsimp only [tNext]
      refine qi (eb_kind (e0 e1.g)) e1.sub fun G2 H2 e2 => ite_no (decide_eq_false n_al) ?_
      dsimp only [tNext]
      refine qi (eb_kind (e0 (e1.trans e2).g)) e2.sub fun G3 H3 e3 => ite_no (decide_eq_false n_ap) ?_
      dsimp only [tNext]
      refine qi (eb_kind (e0 ((e1.trans e2).trans e3).g)) e3.sub fun G4 H4 e4 => ite_yes (decide_eq_true rfl) ?_
      have x : EvD K (tVar 0) (start ["element"] [v]) G4 (El.dat (.afocal m)) := e0 (((e1.trans e2).trans e3).trans e4).g
      exact sr (evd_tup (es_cons (evd_ixT x evd_int rfl) (es_cons z (es_cons z (es_cons (ev_div o (evd_ixT x evd_int rfl) hg.ok o1 hg.small.1.b53.sz) (es_cons z (es_cons z es_nil))))))) e4.sub fun v G5 H5 e5 h5 => q v G5 H5 ((((e1.trans e2).trans e3).trans e4).trans e5) h5
    | stop lo hi =>
      refine ite_no (decide_eq_false n_sg) ?_
      dsimp only [tNext]
      refine qi (eb_kind (e0 e1.g)) e1.sub fun G2 H2 e2 => ite_no (decide_eq_false n_sl) ?_
      dsimp only [tNext]
      refine qi (eb_kind (e0 (e1.trans e2).g)) e2.sub fun G3 H3 e3 => ite_no (decide_eq_false n_sp) ?_
      dsimp only [tNext]
      refine qi (eb_kind (e0 ((e1.trans e2).trans e3).g)) e3.sub fun G4 H4 e4 => ite_no (decide_eq_false n_sa) ?_
      dsimp only [tNext]
      exact sr (evd_cst cI) e4.sub fun v G5 H5 e5 h5 => q v G5 H5 ((((e1.trans e2).trans e3).trans e4).trans e5) h5
abbrev sweighted : Stmt := top 22
theorem scweighted : FnScope ["first", "one", "second", "other"] ["first", "one", "second", "other"] (defScope sweighted) := ⟨rfl, rfl, rfl, by decide +kernel, rfl, by decide +kernel, by decide +kernel⟩
theorem lk_weighted_first : (defScope sweighted).names.lookup ("first" : Str) = some .local := by decide +kernel
theorem lk_weighted_one : (defScope sweighted).names.lookup ("one" : Str) = some .local := by decide +kernel
theorem lk_weighted_second : (defScope sweighted).names.lookup ("second" : Str) = some .local := by decide +kernel
theorem lk_weighted_other : (defScope sweighted).names.lookup ("other" : Str) = some .local := by decide +kernel
theorem gk_weighted_add : (defScope sweighted).names.lookup ("add" : Str) = some .globalImplicit := by decide +kernel
theorem gk_weighted_multiply : (defScope sweighted).names.lookup ("multiply" : Str) = some .globalImplicit := by decide +kernel
theorem has_weighted (F : Fun K "weighted" "weighted" sweighted f fd) (m : mg "weighted" = some (.ref f)) (hadd : Has P w K mg base "add" 3 ["first", "second"] (spR K RAdd)) (hmultiply : Has P w K mg base "multiply" 3 ["first", "second"] (spR K RMul)) : Has P w K mg base "weighted" 4 ["first", "one", "second", "other"] (spR K RWeighted) :=
  has_pure F m (F.binds fun _ _ _ _ _ _ us hl => match us, hl with | [_, _, _, _], _ => rfl) scweighted (fun ds r ⟨_, _, _, _, e, _⟩ => by rw [e]; rfl) fun cdv A outer s H E hr => by
    refine ⟨_, (pss_one (ps_ret (pe_c hadd (hr.mono (by decide)) gk_weighted_add (pa_cons (pe_c hmultiply (hr.mono (by decide)) gk_weighted_multiply (pa_cons (pv 0 rfl (Or.inl lk_weighted_first)) (pa_cons (pv 1 rfl (Or.inl lk_weighted_one)) pa_nil))) (pa_cons (pe_c hmultiply (hr.mono (by decide)) gk_weighted_multiply (pa_cons (pv 2 rfl (Or.inl lk_weighted_second)) (pa_cons (pv 3 rfl (Or.inl lk_weighted_other)) pa_nil))) pa_nil))))), fun vs ds r G Q sG hv hR q => ?_⟩
    obtain ⟨x, y, z, u, rfl, ⟨hx, hy, hz, hu⟩, g1, g2, rfl⟩ := hR
    obtain ⟨v1, v2, v3, v4, rfl, h1, h2, h3, h4⟩ := hv.four
    exact sr (ev_add (ev_mul (evd_var rfl h1) (evd_var rfl h2) hx hy) (ev_mul (evd_var rfl h3) (evd_var rfl h4) hz hu) g1 g2) sG q
abbrev sapply_map : Stmt := top 23
theorem scapply_map : FnScope ["map_used", "ray", "a", "b", "c", "d", "e", "f"] ["map_used", "ray"] (defScope sapply_map) := ⟨rfl, rfl, rfl, by decide +kernel, rfl, by decide +kernel, by decide +kernel⟩
theorem lk_apply_map_map_used : (defScope sapply_map).names.lookup ("map_used" : Str) = some .local := by decide +kernel
theorem lk_apply_map_ray : (defScope sapply_map).names.lookup ("ray" : Str) = some .local := by decide +kernel
theorem lk_apply_map_a : (defScope sapply_map).names.lookup ("a" : Str) = some .local := by decide +kernel
theorem lk_apply_map_b : (defScope sapply_map).names.lookup ("b" : Str) = some .local := by decide +kernel
theorem lk_apply_map_c : (defScope sapply_map).names.lookup ("c" : Str) = some .local := by decide +kernel
theorem lk_apply_map_d : (defScope sapply_map).names.lookup ("d" : Str) = some .local := by decide +kernel
theorem lk_apply_map_e : (defScope sapply_map).names.lookup ("e" : Str) = some .local := by decide +kernel
theorem lk_apply_map_f : (defScope sapply_map).names.lookup ("f" : Str) = some .local := by decide +kernel
theorem gk_apply_map_add : (defScope sapply_map).names.lookup ("add" : Str) = some .globalImplicit := by decide +kernel
theorem gk_apply_map_weighted : (defScope sapply_map).names.lookup ("weighted" : Str) = some .globalImplicit := by decide +kernel
theorem has_apply_map (F : Fun K "apply_map" "apply_map" sapply_map f fd) (m : mg "apply_map" = some (.ref f)) (hadd : Has P w K mg base "add" 3 ["first", "second"] (spR K RAdd)) (hweighted : Has P w K mg base "weighted" 4 ["first", "one", "second", "other"] (spR K RWeighted)) : Has P w K mg base "apply_map" 5 ["map_used", "ray"] (spR K RApply) :=
  has_pure F m (F.binds fun _ _ _ _ _ _ us hl => match us, hl with | [_, _], _ => rfl) scapply_map (fun ds r ⟨_, _, e, _⟩ => by rw [e]; rfl) fun cdv A outer s H E hr => by
    refine ⟨_, (pss_cons (ps_asg (pv 0 rfl (Or.inl lk_apply_map_map_used)) (pg_tupK (K := K) rfl rfl (pgs_cons (pg_name (i := 2) scapply_map.nd rfl (Or.inl lk_apply_map_a)) (pgs_cons (pg_name (i := 3) scapply_map.nd rfl (Or.inl lk_apply_map_b)) (pgs_cons (pg_name (i := 4) scapply_map.nd rfl (Or.inl lk_apply_map_c)) (pgs_cons (pg_name (i := 5) scapply_map.nd rfl (Or.inl lk_apply_map_d)) (pgs_cons (pg_name (i := 6) scapply_map.nd rfl (Or.inl lk_apply_map_e)) (pgs_cons (pg_name (i := 7) scapply_map.nd rfl (Or.inl lk_apply_map_f)) pgs_nil)))))))) (pss_one (ps_ret (pe_tup (pa_cons (pe_c hadd (hr.mono (by decide)) gk_apply_map_add (pa_cons (pe_c hweighted (hr.mono (by decide)) gk_apply_map_weighted (pa_cons (pv 2 rfl (Or.inl lk_apply_map_a)) (pa_cons (pe_ix (ix_seqK (K := K) rfl) (pv 1 rfl (Or.inl lk_apply_map_ray)) pe_int (fun _ _ => rfl)) (pa_cons (pv 3 rfl (Or.inl lk_apply_map_b)) (pa_cons (pe_ix (ix_seqK (K := K) rfl) (pv 1 rfl (Or.inl lk_apply_map_ray)) pe_int (fun _ _ => rfl)) pa_nil))))) (pa_cons (pv 6 rfl (Or.inl lk_apply_map_e)) pa_nil))) (pa_cons (pe_c hadd (hr.mono (by decide)) gk_apply_map_add (pa_cons (pe_c hweighted (hr.mono (by decide)) gk_apply_map_weighted (pa_cons (pv 4 rfl (Or.inl lk_apply_map_c)) (pa_cons (pe_ix (ix_seqK (K := K) rfl) (pv 1 rfl (Or.inl lk_apply_map_ray)) pe_int (fun _ _ => rfl)) (pa_cons (pv 5 rfl (Or.inl lk_apply_map_d)) (pa_cons (pe_ix (ix_seqK (K := K) rfl) (pv 1 rfl (Or.inl lk_apply_map_ray)) pe_int (fun _ _ => rfl)) pa_nil))))) (pa_cons (pv 7 rfl (Or.inl lk_apply_map_f)) pa_nil))) pa_nil)))))), fun vs ds r G Q sG hv hR q => ?_⟩
    obtain ⟨m, y, rfl, hm, hy, rfl⟩ := hR
    obtain ⟨v1, v2, rfl, h1, h2⟩ := hv.two
    refine s_unp (evd_var rfl h1) sG rfl fun xs G1 H1 e1 hx => ?_
    obtain ⟨a, b, c, d, e, f, rfl, ga, gb, gc, gd, ge, gf⟩ := hx.six
    refine ⟨a, _, rfl, b, _, rfl, c, _, rfl, d, _, rfl, e, _, rfl, f, _, rfl, rfl, ?_⟩
    have er : EvD K (tVar 1) [some v1, some v2, some a, some b, some c, some d, some e, some f] G1 (rayd y) := evd_var rfl (h2.mono e1.g)
    have w : ∀ {u v : Rat} {i j : Nat}, B 90 45 u → B 90 45 v → EvD K (tVar i) [some v1, some v2, some a, some b, some c, some d, some e, some f] G1 (fr u) → EvD K (tVar j) [some v1, some v2, some a, some b, some c, some d, some e, some f] G1 (fr v) →
        EvD K (tCall (spR K RWeighted) [] E0 (tCons (tVar i) (tCons (tOp (rIx K) (tVar 1) (tC (.int 0))) (tCons (tVar j) (tCons (tOp (rIx K) (tVar 1) (tC (.int 1))) tNil))))) [some v1, some v2, some a, some b, some c, some d, some e, some f] G1 (fr (u * y.1 + v * y.2)) := fun bu bv hu hv =>
      ev_weighted hu (evd_ixT er evd_int rfl) hv (evd_ixT er evd_int rfl) bu.sz hy.1.sz bv.sz hy.2.sz (bu.mul hy.1).sz (bv.mul hy.2).sz
    have sz : ∀ {u v : Rat}, B 90 45 u → B 90 45 v → Sz (u * y.1 + v * y.2) := fun bu bv => ((bu.mul hy.1).add (bv.mul hy.2) (k := 1540) (by decide) (by decide)).sz
    refine sr (evd_tup (es_cons (ev_add (w hm.a hm.b (evd_var rfl ga) (evd_var rfl gb)) (evd_var rfl ge) (sz hm.a hm.b) hm.e.sz) (es_cons (ev_add (w hm.c hm.d (evd_var rfl gc) (evd_var rfl gd)) (evd_var rfl gf) (sz hm.c hm.d) hm.f.sz) es_nil))) e1.sub fun v G2 H2 e2 k2 => ?_
    exact q v G2 H2 (e1.trans e2) k2
abbrev scompose_maps : Stmt := top 24
theorem sccompose_maps : FnScope ["first", "second", "a", "b", "c", "d", "e", "f", "k", "m", "n", "o", "p", "q", "top", "bottom", "end"] ["first", "second"] (defScope scompose_maps) := ⟨rfl, rfl, rfl, by decide +kernel, rfl, by decide +kernel, by decide +kernel⟩
theorem lk_compose_maps_first : (defScope scompose_maps).names.lookup ("first" : Str) = some .local := by decide +kernel
theorem lk_compose_maps_second : (defScope scompose_maps).names.lookup ("second" : Str) = some .local := by decide +kernel
theorem lk_compose_maps_a : (defScope scompose_maps).names.lookup ("a" : Str) = some .local := by decide +kernel
theorem lk_compose_maps_b : (defScope scompose_maps).names.lookup ("b" : Str) = some .local := by decide +kernel
theorem lk_compose_maps_c : (defScope scompose_maps).names.lookup ("c" : Str) = some .local := by decide +kernel
theorem lk_compose_maps_d : (defScope scompose_maps).names.lookup ("d" : Str) = some .local := by decide +kernel
theorem lk_compose_maps_e : (defScope scompose_maps).names.lookup ("e" : Str) = some .local := by decide +kernel
theorem lk_compose_maps_f : (defScope scompose_maps).names.lookup ("f" : Str) = some .local := by decide +kernel
theorem lk_compose_maps_k : (defScope scompose_maps).names.lookup ("k" : Str) = some .local := by decide +kernel
theorem lk_compose_maps_m : (defScope scompose_maps).names.lookup ("m" : Str) = some .local := by decide +kernel
theorem lk_compose_maps_n : (defScope scompose_maps).names.lookup ("n" : Str) = some .local := by decide +kernel
theorem lk_compose_maps_o : (defScope scompose_maps).names.lookup ("o" : Str) = some .local := by decide +kernel
theorem lk_compose_maps_p : (defScope scompose_maps).names.lookup ("p" : Str) = some .local := by decide +kernel
theorem lk_compose_maps_q : (defScope scompose_maps).names.lookup ("q" : Str) = some .local := by decide +kernel
theorem lk_compose_maps_top : (defScope scompose_maps).names.lookup ("top" : Str) = some .local := by decide +kernel
theorem lk_compose_maps_bottom : (defScope scompose_maps).names.lookup ("bottom" : Str) = some .local := by decide +kernel
theorem lk_compose_maps_end : (defScope scompose_maps).names.lookup ("end" : Str) = some .local := by decide +kernel
theorem gk_compose_maps_add : (defScope scompose_maps).names.lookup ("add" : Str) = some .globalImplicit := by decide +kernel
theorem gk_compose_maps_weighted : (defScope scompose_maps).names.lookup ("weighted" : Str) = some .globalImplicit := by decide +kernel
theorem has_compose_maps (F : Fun K "compose_maps" "compose_maps" scompose_maps f fd) (m : mg "compose_maps" = some (.ref f)) (hadd : Has P w K mg base "add" 3 ["first", "second"] (spR K RAdd)) (hweighted : Has P w K mg base "weighted" 4 ["first", "one", "second", "other"] (spR K RWeighted)) : Has P w K mg base "compose_maps" 5 ["first", "second"] (spR K RComp) :=
  has_pure F m (F.binds fun _ _ _ _ _ _ us hl => match us, hl with | [_, _], _ => rfl) sccompose_maps (fun ds r ⟨_, _, e, _⟩ => by rw [e]; rfl) fun cdv A outer s H E hr => by
    refine ⟨_, (pss_cons (ps_asg (pv 0 rfl (Or.inl lk_compose_maps_first)) (pg_tupK (K := K) rfl rfl (pgs_cons (pg_name (i := 2) sccompose_maps.nd rfl (Or.inl lk_compose_maps_a)) (pgs_cons (pg_name (i := 3) sccompose_maps.nd rfl (Or.inl lk_compose_maps_b)) (pgs_cons (pg_name (i := 4) sccompose_maps.nd rfl (Or.inl lk_compose_maps_c)) (pgs_cons (pg_name (i := 5) sccompose_maps.nd rfl (Or.inl lk_compose_maps_d)) (pgs_cons (pg_name (i := 6) sccompose_maps.nd rfl (Or.inl lk_compose_maps_e)) (pgs_cons (pg_name (i := 7) sccompose_maps.nd rfl (Or.inl lk_compose_maps_f)) pgs_nil)))))))) (pss_cons (ps_asg (pv 1 rfl (Or.inl lk_compose_maps_second)) (pg_tupK (K := K) rfl rfl (pgs_cons (pg_name (i := 8) sccompose_maps.nd rfl (Or.inl lk_compose_maps_k)) (pgs_cons (pg_name (i := 9) sccompose_maps.nd rfl (Or.inl lk_compose_maps_m)) (pgs_cons (pg_name (i := 10) sccompose_maps.nd rfl (Or.inl lk_compose_maps_n)) (pgs_cons (pg_name (i := 11) sccompose_maps.nd rfl (Or.inl lk_compose_maps_o)) (pgs_cons (pg_name (i := 12) sccompose_maps.nd rfl (Or.inl lk_compose_maps_p)) (pgs_cons (pg_name (i := 13) sccompose_maps.nd rfl (Or.inl lk_compose_maps_q)) pgs_nil)))))))) (pss_cons (ps_set (i := 14) sccompose_maps.nd rfl (Or.inl lk_compose_maps_top) (pe_tup (pa_cons (pe_c hweighted (hr.mono (by decide)) gk_compose_maps_weighted (pa_cons (pv 8 rfl (Or.inl lk_compose_maps_k)) (pa_cons (pv 2 rfl (Or.inl lk_compose_maps_a)) (pa_cons (pv 9 rfl (Or.inl lk_compose_maps_m)) (pa_cons (pv 4 rfl (Or.inl lk_compose_maps_c)) pa_nil))))) (pa_cons (pe_c hweighted (hr.mono (by decide)) gk_compose_maps_weighted (pa_cons (pv 8 rfl (Or.inl lk_compose_maps_k)) (pa_cons (pv 3 rfl (Or.inl lk_compose_maps_b)) (pa_cons (pv 9 rfl (Or.inl lk_compose_maps_m)) (pa_cons (pv 5 rfl (Or.inl lk_compose_maps_d)) pa_nil))))) pa_nil)))) (pss_cons (ps_set (i := 15) sccompose_maps.nd rfl (Or.inl lk_compose_maps_bottom) (pe_tup (pa_cons (pe_c hweighted (hr.mono (by decide)) gk_compose_maps_weighted (pa_cons (pv 10 rfl (Or.inl lk_compose_maps_n)) (pa_cons (pv 2 rfl (Or.inl lk_compose_maps_a)) (pa_cons (pv 11 rfl (Or.inl lk_compose_maps_o)) (pa_cons (pv 4 rfl (Or.inl lk_compose_maps_c)) pa_nil))))) (pa_cons (pe_c hweighted (hr.mono (by decide)) gk_compose_maps_weighted (pa_cons (pv 10 rfl (Or.inl lk_compose_maps_n)) (pa_cons (pv 3 rfl (Or.inl lk_compose_maps_b)) (pa_cons (pv 11 rfl (Or.inl lk_compose_maps_o)) (pa_cons (pv 5 rfl (Or.inl lk_compose_maps_d)) pa_nil))))) pa_nil)))) (pss_cons (ps_set (i := 16) sccompose_maps.nd rfl (Or.inl lk_compose_maps_end) (pe_tup (pa_cons (pe_c hadd (hr.mono (by decide)) gk_compose_maps_add (pa_cons (pe_c hweighted (hr.mono (by decide)) gk_compose_maps_weighted (pa_cons (pv 8 rfl (Or.inl lk_compose_maps_k)) (pa_cons (pv 6 rfl (Or.inl lk_compose_maps_e)) (pa_cons (pv 9 rfl (Or.inl lk_compose_maps_m)) (pa_cons (pv 7 rfl (Or.inl lk_compose_maps_f)) pa_nil))))) (pa_cons (pv 12 rfl (Or.inl lk_compose_maps_p)) pa_nil))) (pa_cons (pe_c hadd (hr.mono (by decide)) gk_compose_maps_add (pa_cons (pe_c hweighted (hr.mono (by decide)) gk_compose_maps_weighted (pa_cons (pv 10 rfl (Or.inl lk_compose_maps_n)) (pa_cons (pv 6 rfl (Or.inl lk_compose_maps_e)) (pa_cons (pv 11 rfl (Or.inl lk_compose_maps_o)) (pa_cons (pv 7 rfl (Or.inl lk_compose_maps_f)) pa_nil))))) (pa_cons (pv 13 rfl (Or.inl lk_compose_maps_q)) pa_nil))) pa_nil)))) (pss_one (ps_ret (pe_op (op_addK (K := K) rfl) (pe_op (op_addK (K := K) rfl) (pv 14 rfl (Or.inl lk_compose_maps_top)) (pv 15 rfl (Or.inl lk_compose_maps_bottom))) (pv 16 rfl (Or.inl lk_compose_maps_end)))))))))), fun vs ds r G Q sG hv hR q => ?_⟩
    obtain ⟨x, y, rfl, hx, hy, rfl⟩ := hR
    obtain ⟨v1, v2, rfl, h1, h2⟩ := hv.two
    refine s_unp (evd_var rfl h1) sG rfl fun xs G1 H1 e1 hxs => ?_
    obtain ⟨a, b, c, d, e, f, rfl, ga, gb, gc, gd, ge, gf⟩ := hxs.six
    refine ⟨a, _, rfl, b, _, rfl, c, _, rfl, d, _, rfl, e, _, rfl, f, _, rfl, rfl, ?_⟩
    refine s_unp (evd_var rfl (h2.mono e1.g)) e1.sub rfl fun ys G2 H2 e2 hys => ?_
    obtain ⟨k, m, n, o, p, r, rfl, gk, gm, gn, go, gp, gr⟩ := hys.six
    refine ⟨k, _, rfl, m, _, rfl, n, _, rfl, o, _, rfl, p, _, rfl, r, _, rfl, rfl, ?_⟩
    have w : ∀ {u v s t : Rat} {σ : L2.St} {G3 : Hp} {i1 i2 i3 i4 : Nat}, B 10 6 u → B 90 45 v → B 10 6 s → B 90 45 t → EvD K (tVar i1) σ G3 (fr u) → EvD K (tVar i2) σ G3 (fr v) → EvD K (tVar i3) σ G3 (fr s) → EvD K (tVar i4) σ G3 (fr t) →
        EvD K (tCall (spR K RWeighted) [] E0 (tCons (tVar i1) (tCons (tVar i2) (tCons (tVar i3) (tCons (tVar i4) tNil))))) σ G3 (fr (u * v + s * t)) := fun b1 b2 b3 b4 g1 g2 g3 g4 =>
      ev_weighted g1 g2 g3 g4 b1.sz b2.sz b3.sz b4.sz (b1.mul b2).sz (b3.mul b4).sz
    have sz : ∀ {u v s t : Rat}, B 10 6 u → B 90 45 v → B 10 6 s → B 90 45 t → Sz (u * v + s * t) := fun b1 b2 b3 b4 => ((b1.mul b2).add (b3.mul b4) (k := 200) (by decide) (by decide)).sz
    -- top
    change tSeq _ _ _ [some v1, some v2, some a, some b, some c, some d, some e, some f, some k, some m, some n, some o, some p, some r, none, none, none] H2
    refine qa (evd_tup (es_cons (w hy.a hx.a hy.b hx.c (evd_var rfl gk) (evd_var rfl (ga.mono e2.g)) (evd_var rfl gm) (evd_var rfl (gc.mono e2.g))) (es_cons (w hy.a hx.b hy.b hx.d (evd_var rfl gk) (evd_var rfl (gb.mono e2.g)) (evd_var rfl gm) (evd_var rfl (gd.mono e2.g))) es_nil))) e2.sub fun v3 G3 H3 e3 g3 => ?_
    -- bottom
    have E23 : Ex G1 G3 := (e2.trans e3).g
    refine qa (evd_tup (es_cons (w hy.c hx.a hy.d hx.c (evd_var rfl (gn.mono e3.g)) (evd_var rfl (ga.mono E23)) (evd_var rfl (go.mono e3.g)) (evd_var rfl (gc.mono E23))) (es_cons (w hy.c hx.b hy.d hx.d (evd_var rfl (gn.mono e3.g)) (evd_var rfl (gb.mono E23)) (evd_var rfl (go.mono e3.g)) (evd_var rfl (gd.mono E23))) es_nil))) e3.sub fun v4 G4 H4 e4 g4 => ?_
    -- end
    have E24 : Ex G1 G4 := E23.trans e4.g
    have E34 : Ex G2 G4 := (e3.trans e4).g
    refine qa (evd_tup (es_cons (ev_add (w hy.a hx.e hy.b hx.f (evd_var rfl (gk.mono E34)) (evd_var rfl (ge.mono E24)) (evd_var rfl (gm.mono E34)) (evd_var rfl (gf.mono E24))) (evd_var rfl (gp.mono E34)) (sz hy.a hx.e hy.b hx.f) hy.e.sz)
      (es_cons (ev_add (w hy.c hx.e hy.d hx.f (evd_var rfl (gn.mono E34)) (evd_var rfl (ge.mono E24)) (evd_var rfl (go.mono E34)) (evd_var rfl (gf.mono E24))) (evd_var rfl (gr.mono E34)) (sz hy.c hx.e hy.d hx.f) hy.f.sz) es_nil))) e4.sub fun v5 G5 H5 e5 g5 => ?_
    refine sr (evd_catT (evd_catT (evd_var rfl (g3.mono (e4.trans e5).g)) (evd_var rfl (g4.mono e5.g))) (evd_var rfl g5)) e5.sub fun v G6 H6 e6 g6 => ?_
    exact q v G6 H6 (((((e1.trans e2).trans e3).trans e4).trans e5).trans e6) g6
theorem eld_mem {t : List El} {i : Nat} {d : PyData} (h : (t.map El.dat)[i]? = some d) : ∃ e, t[i]? = some e ∧ d = e.dat := by
  rw [List.getElem?_map] at h
  cases e : t[i]? with
  | none => (rw [e] at h; cases h)
  | some x => rw [e] at h; exact ⟨x, rfl, (Option.some.inj h).symm⟩
abbrev sray_transfer : Stmt := top 25
theorem scray_transfer : FnScope ["train", "found", "element"] ["train"] (defScope sray_transfer) := ⟨rfl, rfl, rfl, by decide +kernel, rfl, by decide +kernel, by decide +kernel⟩
theorem lk_ray_transfer_train : (defScope sray_transfer).names.lookup ("train" : Str) = some .local := by decide +kernel
theorem lk_ray_transfer_found : (defScope sray_transfer).names.lookup ("found" : Str) = some .local := by decide +kernel
theorem lk_ray_transfer_element : (defScope sray_transfer).names.lookup ("element" : Str) = some .local := by decide +kernel
theorem gk_ray_transfer_compose_maps : (defScope sray_transfer).names.lookup ("compose_maps" : Str) = some .globalImplicit := by decide +kernel
theorem gk_ray_transfer_element_map : (defScope sray_transfer).names.lookup ("element_map" : Str) = some .globalImplicit := by decide +kernel
theorem gk_ray_transfer_IDENTITY : (defScope sray_transfer).names.lookup ("IDENTITY" : Str) = some .globalImplicit := by decide +kernel
theorem has_ray_transfer (F : Fun K "ray_transfer" "ray_transfer" sray_transfer f fd) (m : mg "ray_transfer" = some (.ref f)) {aI : Addr} (mIDENTITY : mg "IDENTITY" = some (.ref aI)) (cI : ∀ G, Is K G (.ref aI) (mpd .id)) (helement_map : Has P w K mg base "element_map" 4 ["element"] (spR K REmap)) (hcompose_maps : Has P w K mg base "compose_maps" 5 ["first", "second"] (spR K RComp)) : Has P w K mg base "ray_transfer" 6 ["train"] (spR K RTransfer) :=
  has_pure F m (F.binds fun _ _ _ _ _ _ us hl => match us, hl with | [_], _ => rfl) scray_transfer (fun ds r ⟨_, e, _⟩ => by rw [e]; rfl) fun cdv A outer s H E hr => by
    refine ⟨_, (pss_cons (ps_set (i := 1) scray_transfer.nd rfl (Or.inl lk_ray_transfer_found) (pe_gref gk_ray_transfer_IDENTITY mIDENTITY)) (pss_cons (ps_for PassesOwn.never rfl (pi_listK (K := K) rfl (pv 0 rfl (Or.inl lk_ray_transfer_train))) (pg_name (i := 2) scray_transfer.nd rfl (Or.inl lk_ray_transfer_element)) (pss_one (ps_set (i := 1) scray_transfer.nd rfl (Or.inl lk_ray_transfer_found) (pe_c hcompose_maps (hr.mono (by decide)) gk_ray_transfer_compose_maps (pa_cons (pv 1 rfl (Or.inl lk_ray_transfer_found)) (pa_cons (pe_c helement_map (hr.mono (by decide)) gk_ray_transfer_element_map (pa_cons (pv 2 rfl (Or.inl lk_ray_transfer_element)) pa_nil)) pa_nil)))))) (pss_one (ps_ret (pv 1 rfl (Or.inl lk_ray_transfer_found)))))), fun vs ds r G Q sG hv hR q => ?_⟩
    obtain ⟨t, rfl, ht, rfl⟩ := hR
    obtain ⟨v, rfl, h1⟩ := hv.one
    refine qa (evd_cst cI) sG fun v1 G1 H1 e1 g1 => ?_
    refine q_for (evd_var rfl (h1.mono e1.g)) e1.sub fun G2 H2 e2 => ⟨fun i σ' G' H' => Ext G2 H2 G' H' ∧ ∃ m u, σ' = [some v, some m, u] ∧ Is K G' m (mpd (transfer (t.take i))), fun i σ' G' H' p => ⟨p.1.g, p.1.sub⟩, ⟨Ext.refl e2.sub, v1, none, rfl, g1.mono e2.g⟩, ?_, ?_⟩
    · rintro i d u σ' G' H' hd hu ⟨e, m, u0, rfl, hm⟩
      obtain ⟨el, hel, rfl⟩ := eld_mem hd
      have gel := ht.2 el (List.mem_of_getElem? hel)
      have hf : transfer (t.take (i + 1)) = (transfer (t.take i)).comp el.mp := by rw [take_snoc hel]; unfold transfer; rw [List.foldl_append]; rfl
      refine sa (evd_call (es_cons (evd_var rfl hm) (es_cons (evd_call (es_cons (evd_var rfl hu) es_nil) (R := REmap) ⟨el, rfl, gel, rfl⟩) es_nil)) (R := RComp) ⟨_, _, rfl, bits_transfer (ht.take i), bits_mp gel.small, rfl⟩) e.sub fun v4 G4 H4 e4 g4 => ⟨G4, e.trans e4, v4, some u, rfl, ?_⟩
      rw [hf]; exact g4
    · rintro σ' G' H' ⟨e, m, u0, rfl, hm⟩
      rw [List.length_map, List.take_length] at hm
      refine sr (evd_var rfl hm) e.sub fun v G3 H3 e3 h3 => ?_
      exact q v G3 H3 (((e1.trans e2).trans e).trans e3) h3
end
end Rt
namespace Rt
open PySem PySem.Spec PyProof.Rows L2 Evl
/-! ### edges -/
/-- the place, whether the upper one, the height -/
abbrev Edge := Nat × Bool × Rat
def edgesAt (i : Nat) : El → List Edge
  | .stop lo hi => (lo.toList.map fun x => (i, false, x)) ++ (hi.toList.map fun x => (i, true, x))
  | _ => []
def edgesFrom : Nat → List El → List Edge
  | _, [] => []
  | i, e :: t => edgesAt i e ++ edgesFrom (i + 1) t
def edges (t : List El) : List Edge := edgesFrom 0 t
theorem edges_snoc (e : El) : ∀ (t : List El) (k : Nat), edgesFrom k (t ++ [e]) = edgesFrom k t ++ edgesAt (k + t.length) e
  | [], k => by simp [edgesFrom]
  | a :: t, k => by
    show edgesAt k a ++ edgesFrom (k + 1) (t ++ [e]) = (edgesAt k a ++ edgesFrom (k + 1) t) ++ edgesAt (k + (t.length + 1)) e
    rw [edges_snoc e t (k + 1), List.append_assoc, show k + 1 + t.length = k + (t.length + 1) by omega]
theorem edges_take {t : List El} {i : Nat} {e : El} (h : t[i]? = some e) : edges (t.take (i + 1)) = edges (t.take i) ++ edgesAt i e := by
  have hi : i < t.length := (List.getElem?_eq_some_iff.mp h).1
  unfold edges
  rw [take_snoc h, edges_snoc, List.length_take, Nat.min_eq_left (Nat.le_of_lt hi), Nat.zero_add]
theorem edgesAt_len (i : Nat) (e : El) : (edgesAt i e).length ≤ 2 := by
  cases e with
  | stop lo hi => cases lo <;> cases hi <;> simp [edgesAt]
  | _ => simp [edgesAt]
theorem edgesFrom_len : ∀ (t : List El) (k : Nat), (edgesFrom k t).length ≤ 2 * t.length
  | [], _ => Nat.le_refl _
  | a :: t, k => by
    have h1 := edgesFrom_len t (k + 1)
    have h2 := edgesAt_len k a
    show (edgesAt k a ++ edgesFrom (k + 1) t).length ≤ 2 * (t.length + 1)
    rw [List.length_append]
    omega
/-- an edge is one of a stop of the train -/
theorem edges_mem : ∀ (t : List El) (k : Nat) (x : Edge), x ∈ edgesFrom k t → ∃ j lo hi, x.1 = k + j ∧ t[j]? = some (.stop lo hi) ∧ ((x.2.1 = false ∧ lo = some x.2.2) ∨ (x.2.1 = true ∧ hi = some x.2.2))
  | [], _, _, h => nomatch h
  | a :: t, k, x, h => by
    rcases of_append (show x ∈ edgesAt k a ++ edgesFrom (k + 1) t from h) with h | h
    · cases a with
      | stop lo hi =>
        refine ⟨0, lo, hi, ?_⟩
        rcases of_append h with h | h
        · obtain ⟨y, hy, rfl⟩ := of_map h
          exact ⟨rfl, rfl, .inl ⟨rfl, Option.mem_toList.mp hy⟩⟩
        · obtain ⟨y, hy, rfl⟩ := of_map h
          exact ⟨rfl, rfl, .inr ⟨rfl, Option.mem_toList.mp hy⟩⟩
      | _ => cases h
    · obtain ⟨j, lo, hi, h1, h2, h3⟩ := edges_mem t (k + 1) x h
      exact ⟨j + 1, lo, hi, by omega, h2, h3⟩
theorem edge_small {t : List El} {x : Edge} (h : x ∈ edges t) (g : ∀ e ∈ t, e.good) : x.1 < t.length ∧ B 6 3 x.2.2 := by
  obtain ⟨j, lo, hi, h1, h2, h3⟩ := edges_mem t 0 x h
  have hj : j < t.length := (List.getElem?_eq_some_iff.mp h2).1
  have s := (g _ (List.mem_of_getElem? h2)).small
  refine ⟨by omega, ?_⟩
  rcases h3 with ⟨_, h3⟩ | ⟨_, h3⟩
  · exact (s.1 _ h3).b63
  · exact (s.2 _ h3).b63
def side : Bool → Str
  | false => "lower"
  | true => "upper"
theorem n_ul : ¬ (("upper" : Str) = "lower") := by decide +kernel
abbrev ekey (e : Edge) : PyData := .tuple [.int (e.1 : Int), .str (side e.2.1)]
abbrev edged (e : Edge) : PyData := .tuple [ekey e, fr e.2.2]
/-- how far a ray is inside of an edge -/
def clr (t : List El) (e : Edge) (r : Ray) : Rat := if e.2.1 then e.2.2 - ((transfer (t.take e.1)).app r).1 else ((transfer (t.take e.1)).app r).1 - e.2.2
def told (t : List El) (rs : List Ray) : List (Edge × Option Rat) := (edges t).map fun e => (e, leastR (rs.map (clr t e)))
abbrev told1 (x : Edge × Option Rat) : PyData := .tuple [ekey x.1, ofr x.2]
def REdges : Rl := fun ds r => ∃ t : List El, ds = [traind t] ∧ t.length ≤ 100 ∧ r = .list ((edges t).map edged)
def RClear : Rl := fun ds r => ∃ (t : List El) (e : Edge) (y : Ray), ds = [traind t, ekey e, fr e.2.2, rayd y] ∧ Good t ∧ e.1 ≤ t.length ∧ B 6 3 e.2.2 ∧ RayB y ∧ r = fr (clr t e y)
/-- the clearances of some rays; without rays NoRays, of the class at C -/
def spClears (K : PySem.W.Frag) (C : Addr) : Sp := fun vs H Q E => ∃ (t : List El) (rs : List Ray) (G : Hp), Ex G H ∧ IsAll K G vs [traind t, .list (rs.map rayd)] ∧ Good t ∧ rs.length ≤ 10 ∧ (∀ y ∈ rs, RayB y) ∧
  (rs ≠ [] → ∀ v G' H', Ext G H G' H' → Is K G' v (.list ((told t rs).map told1)) → Q v H') ∧ (rs = [] → ∀ G' H', Ext G H G' H' → E (.ref C) none H')
theorem clr_bits {t : List El} {e : Edge} {r : Ray} (h : Good t) (he : B 6 3 e.2.2) (hr : RayB r) : B 1700 1700 (clr t e r) := by
  have a := (app_bits (bits_transfer (h.take e.1)) hr).1
  unfold clr
  split
  · exact (he.sub a (k := 1700) (by decide) (by decide)).mono (by decide) (by decide)
  · exact (a.sub he (k := 1700) (by decide) (by decide)).mono (by decide) (by decide)
section
variable {K : PySem.W.Frag} {G H : Hp} {σ : L2.St} {te : TE}
/-- a comprehension over pairs, to two names -/
theorem evd_lcT {α : Type} {tl : TE} {i j : Nat} {vs : List Nat} {ps : List α} (pa pb : α → PyData) (f : α → PyData) (h : EvD K tl σ G (.list (ps.map fun p => .tuple [pa p, pb p]))) (hz : ps.length ≤ 100000)
    (hw : ∀ x y, wipe (((wipe σ vs).set i (some x)).set j (some y)) vs = wipe σ vs)
    (he : ∀ (p : α) (x y : V) G1, Ex G G1 → p ∈ ps → Is K G1 x (pa p) → Is K G1 y (pb p) → EvD K te (((wipe σ vs).set i (some x)).set j (some y)) G1 (f p)) :
    EvD K (tLc (iList K tl) (gTup K 2 (gCons (gName i) (gCons (gName j) gNil))) tYes te vs) σ G (.list (ps.map f)) := fun G1 H1 e1 s Q q => h G1 H1 e1 s _ fun v G2 H2 e2 h2 => by
  obtain ⟨a, xs, rfl, hx, hs⟩ := h2.lstIn
  refine ⟨a, rfl, ⟨xs, SqL.of (e2.sub _ _ hx)⟩, fun D hD => ?_⟩
  have gD : G2 D = none := fresh_back e2.sub hD
  have hlen : xs.length = ps.length := by rw [hs.length, List.length_map]
  refine lc_list (K := K) (a := a) (xs := xs) (fun i H' => ∃ G' acc, Ext G2 H2 G' H' ∧ G' D = none ∧ H' D = some (.lst acc) ∧ acc.length ≤ i ∧ IsAll K G' acc ((ps.take i).map f)) ?_ (fun i H' _ ⟨G', _, e, _⟩ => SqL.of (e.h _ _ (e2.sub _ _ hx))) ?_ ?_
  · exact ⟨G2, [], (Ext.refl e2.sub).mut hD gD, gD, upd_same, Nat.le_refl _, .nil⟩
  · intro m x H' hm ⟨G', acc, ex, gD', hacc, hl, hall⟩
    obtain ⟨d, hd, hxd⟩ := (hs.mono ex.g).at hm
    rw [List.getElem?_map] at hd
    cases hp : ps[m]? with
    | none => rw [hp] at hd; cases hd
    | some p =>
      rw [hp] at hd
      obtain rfl := (Option.some.inj hd)
      have hmem : p ∈ ps := List.mem_of_getElem? hp
      have hmz : m < ps.length := (List.getElem?_eq_some_iff.mp hp).1
      obtain ⟨t, ys, rfl, ht, hys⟩ := hxd.tupIn
      obtain ⟨y, z, rfl, hy, hz'⟩ := hys.two
      refine ⟨t, [y, z], rfl, ex_t ex.sub ht, rfl, y, _, rfl, z, _, rfl, rfl, hw y z, ?_⟩
      dsimp only [tYes]
      rw [if_pos rfl]
      refine he p y z G' ((e1.trans e2.g).trans ex.g) hmem hy hz' G' H' (Ex.refl _) ex.sub _ fun u G4 H4 e4 h4 => ⟨acc, e4.h _ _ hacc, sz_lt (by omega), ?_⟩
      have g4 : G4 D = none := e4.unseen gD' hacc
      refine ⟨G4, acc ++ [u], (ex.trans e4).mut hD g4, g4, upd_same, by rw [List.length_append, List.length_singleton]; omega, ?_⟩
      rw [take_snoc hp, List.map_append]
      exact (hall.mono e4.g).append (.cons h4 .nil)
  · intro H' ⟨G', acc, ex, gD', hacc, _, hall⟩
    rw [hlen, List.take_length] at hall
    exact q _ _ _ (e2.trans (ex.show hD gD' hacc)) (.lst upd_same (hall.mono (Ex.new gD')))
/-- X(), X an own error without own __init__ -/
theorem pmk_own0 {X : Cx} {C : Addr} {bmB : List Value} {B newId initId : String} {x : Str} {p pos : Pos} (F : ExcBaseFacts B newId initId bmB) (q : PySem.W.excIn X.K C bmB newId = true) (gC : X.mg x = some (.ref C)) (kC : PySem.W.keepIn X.K (.ref C) = true) (r : Raises X (.ref C)) (hg : Gl X x)
    (hdb : (x == ("__debug__" : Str)) = false := by decide) : PMk X (.Call (.Name x p) [] [] pos) (fun _ H Q => Q (.ref C) none H) := fun pins s σ H Q I h => by
  refine wpAny_Call_Name_kw (ld_glob I hg gC (PySem.W.callWith_K0 I.kIn kC ?_) hdb)
  obtain ⟨bm, N, nm, qn, bs, b1, sn, sub, ab, col, dd, k0, k1, k2, k3, k5, mN, hC, hN, hni, T⟩ := exc_obj I.kIn q
  exact wpAny_call_exc_subT F T hC hN hni (fun h' e made => mk_of I made r h (I.hok.gone made.new)) (Nat.zero_le _)
end
section
variable {w : World} {P : Program} {K : PySem.W.Frag} {mg : Str → Option Value} {base : Heap} {f : Addr} {fd : FuncData}
abbrev sedges_of : Stmt := top 27
theorem scedges_of : FnScope ["train", "found", "index", "element"] ["train"] (defScope sedges_of) := ⟨rfl, rfl, rfl, by decide +kernel, rfl, by decide +kernel, by decide +kernel⟩
theorem lk_edges_of_train : (defScope sedges_of).names.lookup ("train" : Str) = some .local := by decide +kernel
theorem lk_edges_of_found : (defScope sedges_of).names.lookup ("found" : Str) = some .local := by decide +kernel
theorem lk_edges_of_index : (defScope sedges_of).names.lookup ("index" : Str) = some .local := by decide +kernel
theorem lk_edges_of_element : (defScope sedges_of).names.lookup ("element" : Str) = some .local := by decide +kernel
theorem gk_edges_of_enumerate : (defScope sedges_of).names.lookup ("enumerate" : Str) = some .globalImplicit := by decide +kernel
theorem has_edges_of (F : Fun K "edges_of" "edges_of" sedges_of f fd) (m : mg "edges_of" = some (.ref f)) (zEnum : mg "enumerate" = none) : Has P w K mg base "edges_of" 1 ["train"] (spR K REdges) :=
  has_pure F m (F.binds fun _ _ _ _ _ _ us hl => match us, hl with | [_], _ => rfl) scedges_of (fun ds r ⟨_, e, _⟩ => by rw [e]; rfl) fun cdv A outer s H E hr => by
    refine ⟨_, (pss_cons (ps_set (i := 1) scedges_of.nd rfl (Or.inl lk_edges_of_found) (pe_lst pa_nil)) (pss_cons (ps_for PassesOwn.never rfl (pi_enumK (K := K) rfl gk_edges_of_enumerate zEnum (pa_cons (pv 0 rfl (Or.inl lk_edges_of_train)) pa_nil)) (pg_tupK (K := K) rfl rfl (pgs_cons (pg_name (i := 2) scedges_of.nd rfl (Or.inl lk_edges_of_index)) (pgs_cons (pg_name (i := 3) scedges_of.nd rfl (Or.inl lk_edges_of_element)) pgs_nil))) (pss_one (ps_if (pt_cmpR (op_eqK (K := K) rfl hr.units) (pe_ix (ix_seqK (K := K) rfl) (pv 3 rfl (Or.inl lk_edges_of_element)) pe_int (fun _ _ => rfl)) pe_str (nomark _)) (pss_cons (ps_if (pt_cmpR op_notNo (pe_ix (ix_seqK (K := K) rfl) (pv 3 rfl (Or.inl lk_edges_of_element)) pe_int (fun _ _ => rfl)) pe_non (nomark _)) (pss_one (ps_expr (pe_appK (K := K) rfl (pv 1 rfl (Or.inl lk_edges_of_found)) (pe_tup (pa_cons (pe_tup (pa_cons (pv 2 rfl (Or.inl lk_edges_of_index)) (pa_cons pe_str pa_nil))) (pa_cons (pe_ix (ix_seqK (K := K) rfl) (pv 3 rfl (Or.inl lk_edges_of_element)) pe_int (fun _ _ => rfl)) pa_nil)))))) pss_nil) (pss_one (ps_if (pt_cmpR op_notNo (pe_ix (ix_seqK (K := K) rfl) (pv 3 rfl (Or.inl lk_edges_of_element)) pe_int (fun _ _ => rfl)) pe_non (nomark _)) (pss_one (ps_expr (pe_appK (K := K) rfl (pv 1 rfl (Or.inl lk_edges_of_found)) (pe_tup (pa_cons (pe_tup (pa_cons (pv 2 rfl (Or.inl lk_edges_of_index)) (pa_cons pe_str pa_nil))) (pa_cons (pe_ix (ix_seqK (K := K) rfl) (pv 3 rfl (Or.inl lk_edges_of_element)) pe_int (fun _ _ => rfl)) pa_nil)))))) pss_nil))) pss_nil))) (pss_one (ps_ret (pv 1 rfl (Or.inl lk_edges_of_found)))))), fun vs ds r G Q sG hv hR q => ?_⟩
    obtain ⟨t, rfl, ht, rfl⟩ := hR
    obtain ⟨v, rfl, h1⟩ := hv.one
    refine ⟨(Nat.zero_le _), fun l hl => ?_⟩
    have gl : G l = none := fresh_back sG hl
    have x1 : Ext G H G (upd H l (.lst [])) := (Ext.refl sG).mut hl gl
    refine q_forE (ds := t.map El.dat) (evd_var rfl h1) x1.sub fun G2 H2 e2 => ⟨fun i σ' G' H' => Ext G H G' H' ∧ Ex G2 G' ∧ G' l = none ∧ ∃ acc u y, σ' = [some v, some (.ref l), u, y] ∧ H' l = some (.lst acc) ∧ acc.length ≤ 2 * i ∧ IsAll K G' acc ((edges (t.take i)).map edged), fun i σ' G' H' p => ⟨p.2.1, p.1.sub⟩,
      ⟨x1.trans e2, Ex.refl _, e2.unseen gl upd_same, [], none, none, rfl, e2.h _ _ upd_same, Nat.le_refl _, .nil⟩, ?_, ?_⟩
    · rintro i d u σ' G' H' T hd hu ⟨e, s2, gl', acc, u0, y0, rfl, hacc, hlen, hall⟩ hT
      obtain ⟨el, hel, rfl⟩ := eld_mem hd
      have hit : i < t.length := (List.getElem?_eq_some_iff.mp hel).1
      have nlT : l ≠ T := ne_of_none hacc hT
      refine ⟨T, [.int (i : Int), u], rfl, SqT.of upd_same, rfl, .int (i : Int), _, rfl, u, _, rfl, rfl, ?_⟩
      change tIfS _ _ _ _ [some v, some (.ref l), some (.int (i : Int)), some u] _
      have eT : Ext G H G' (upd H' T (.tup [.int (i : Int), u])) := e.mut (fresh_back e.h hT) (fresh_back e.sub hT)
      have lT : (upd H' T (.tup [.int (i : Int), u])) l = some (.lst acc) := by rw [upd_ne nlT]; exact hacc
      have eu : EvD K (tVar 3) [some v, some (.ref l), some (.int (i : Int)), some u] G' el.dat := evd_var rfl hu
      have hz : acc.length < 99999 := by omega
      refine si (eb_kind eu) eT.sub fun G3 H3 e3 => ?_
      have hE := edges_take hel
      cases el with
      | stop lo hi =>
        refine ite_yes (decide_eq_true rfl) ?_
        have e4 := eT.trans e3
        have l3 := e3.h _ _ lT
        have g3 := e3.unseen gl' lT
        have su : ∀ {G9}, Ex G3 G9 → EvD K (tVar 3) [some v, some (.ref l), some (.int (i : Int)), some u] G9 (El.dat (.stop lo hi)) := fun x => eu.mono (e3.g.trans x)
        have ei : ∀ {G9}, EvD K (tVar 2) [some v, some (.ref l), some (.int (i : Int)), some u] G9 (.int (i : Int)) := evd_var rfl (.int _)
        -- the upper one, behind whatever stands
        have up : ∀ (G5 H5 : Hp) (acc5 : List V), Ext G H G5 H5 → Ex G3 G5 → G5 l = none → H5 l = some (.lst acc5) → acc5.length ≤ 2 * i + 1 → IsAll K G5 acc5 (((edges (t.take i)) ++ (lo.toList.map fun x => (i, false, x))).map edged) →
            tIfS (tTest (tOp rNotNo (tOp (rIx K) (tVar 3) (tC (.int 2))) (tC .non))) (tDrop (tBM K "list" rAppend (tVar 1) (tCons (tTup (tCons (tTup (tCons (tVar 2) (tCons (tC (.str "upper")) tNil))) (tCons (tOp (rIx K) (tVar 3) (tC (.int 2))) tNil))) tNil))) tNext
              { nx := fun σ3 H3 => ∃ G4, Ext G H G4 H3 ∧ Ex G2 G4 ∧ G4 l = none ∧ ∃ acc u y, σ3 = [some v, some (.ref l), u, y] ∧ H3 l = some (.lst acc) ∧ acc.length ≤ 2 * (i + 1) ∧ IsAll K G4 acc ((edges (t.take (i + 1))).map edged), rt := Q } [some v, some (.ref l), some (.int (i : Int)), some u] H5 := by
          intro G5 H5 acc5 e5 s5 gl5 l5 z5 a5
          refine si (eb_val (evd_notN (evd_ixT (su s5) evd_int rfl))) e5.sub fun G6 H6 e6 => ?_
          have l6 := e6.h _ _ l5
          have g6 := e6.unseen gl5 l5
          cases hi with
          | none =>
            refine ite_no rfl ⟨G6, e5.trans e6, ((s2.trans e3.g).trans s5).trans e6.g, g6, acc5, _, _, rfl, l6, by omega, ?_⟩
            rw [hE]
            show IsAll K G6 acc5 ((edges (t.take i) ++ ((lo.toList.map fun x => (i, false, x)) ++ [])).map edged)
            rw [List.append_nil]
            exact a5.mono e6.g
          | some x =>
            refine ite_yes rfl ?_
            refine s_app (d := edged (i, true, x)) rfl l6 (by omega) (evd_tup (es_cons (evd_tup (es_cons ei (es_cons evd_str es_nil))) (es_cons (evd_ixT (su (s5.trans e6.g)) evd_int rfl) es_nil))) e6.sub fun z G7 H7 e7 l7 h7 => ?_
            have g7 := e7.unseen g6 l6
            refine ⟨G7, (((e5.trans e6).trans e7).mut hl g7), (((s2.trans e3.g).trans s5).trans e6.g).trans e7.g, g7, acc5 ++ [z], _, _, rfl, upd_same, by rw [List.length_append, List.length_singleton]; omega, ?_⟩
            rw [hE]
            show IsAll K G7 (acc5 ++ [z]) ((edges (t.take i) ++ ((lo.toList.map fun x => (i, false, x)) ++ [(i, true, x)])).map edged)
            rw [← List.append_assoc, List.map_append]
            exact (a5.mono (e6.trans e7).g).append (.cons h7 .nil)
        refine qi (eb_val (evd_notN (evd_ixT (su (Ex.refl _)) evd_int rfl))) e4.sub fun G5 H5 e5 => ?_
        have l5 := e5.h _ _ l3
        have g5 := e5.unseen g3 l3
        cases lo with
        | none =>
          refine ite_no rfl ?_
          refine up G5 H5 acc (e4.trans e5) e5.g g5 l5 (by omega) ?_
          show IsAll K G5 acc ((edges (t.take i) ++ []).map edged)
          rw [List.append_nil]
          exact hall.mono (e3.trans e5).g
        | some x =>
          refine ite_yes rfl ?_
          refine s_app (d := edged (i, false, x)) rfl l5 (by omega) (evd_tup (es_cons (evd_tup (es_cons ei (es_cons evd_str es_nil))) (es_cons (evd_ixT (su e5.g) evd_int rfl) es_nil))) e5.sub fun z G7 H7 e7 l7 h7 => ?_
          have g7 := e7.unseen g5 l5
          refine up G7 _ (acc ++ [z]) (((e4.trans e5).trans e7).mut hl g7) (e5.trans e7).g g7 upd_same (by rw [List.length_append, List.length_singleton]; omega) ?_
          show IsAll K G7 (acc ++ [z]) ((edges (t.take i) ++ [(i, false, x)]).map edged)
          rw [List.map_append]
          exact (hall.mono ((e3.trans e5).trans e7).g).append (.cons h7 .nil)
      | gap _ => exact ite_no (decide_eq_false n_gs) ⟨G3, eT.trans e3, s2.trans e3.g, e3.unseen gl' lT, acc, _, _, rfl, e3.h _ _ lT, by omega, by rw [hE, show edgesAt i (.gap _) = [] from rfl, List.append_nil]; exact hall.mono e3.g⟩
      | lens _ _ => exact ite_no (decide_eq_false n_ls) ⟨G3, eT.trans e3, s2.trans e3.g, e3.unseen gl' lT, acc, _, _, rfl, e3.h _ _ lT, by omega, by rw [hE, show edgesAt i (.lens _ _) = [] from rfl, List.append_nil]; exact hall.mono e3.g⟩
      | prism _ => exact ite_no (decide_eq_false n_ps) ⟨G3, eT.trans e3, s2.trans e3.g, e3.unseen gl' lT, acc, _, _, rfl, e3.h _ _ lT, by omega, by rw [hE, show edgesAt i (.prism _) = [] from rfl, List.append_nil]; exact hall.mono e3.g⟩
      | afocal _ => exact ite_no (decide_eq_false n_as) ⟨G3, eT.trans e3, s2.trans e3.g, e3.unseen gl' lT, acc, _, _, rfl, e3.h _ _ lT, by omega, by rw [hE, show edgesAt i (.afocal _) = [] from rfl, List.append_nil]; exact hall.mono e3.g⟩
    · rintro σ' G' H' ⟨e, s2, gl', acc, u0, y0, rfl, hacc, hlen, hall⟩
      rw [List.length_map, List.take_length] at hall
      exact ⟨.ref l, rfl, q _ (upd G' l (.lst acc)) H' (e.show hl gl' hacc) (.lst upd_same (hall.mono (Ex.new gl')))⟩
abbrev sclearance : Stmt := top 28
theorem scclearance : FnScope ["train", "edge", "height", "ray", "there"] ["train", "edge", "height", "ray"] (defScope sclearance) := ⟨rfl, rfl, rfl, by decide +kernel, rfl, by decide +kernel, by decide +kernel⟩
theorem lk_clearance_train : (defScope sclearance).names.lookup ("train" : Str) = some .local := by decide +kernel
theorem lk_clearance_edge : (defScope sclearance).names.lookup ("edge" : Str) = some .local := by decide +kernel
theorem lk_clearance_height : (defScope sclearance).names.lookup ("height" : Str) = some .local := by decide +kernel
theorem lk_clearance_ray : (defScope sclearance).names.lookup ("ray" : Str) = some .local := by decide +kernel
theorem lk_clearance_there : (defScope sclearance).names.lookup ("there" : Str) = some .local := by decide +kernel
theorem gk_clearance_subtract : (defScope sclearance).names.lookup ("subtract" : Str) = some .globalImplicit := by decide +kernel
theorem gk_clearance_apply_map : (defScope sclearance).names.lookup ("apply_map" : Str) = some .globalImplicit := by decide +kernel
theorem gk_clearance_ray_transfer : (defScope sclearance).names.lookup ("ray_transfer" : Str) = some .globalImplicit := by decide +kernel
theorem has_clearance (F : Fun K "clearance" "clearance" sclearance f fd) (m : mg "clearance" = some (.ref f)) (happly_map : Has P w K mg base "apply_map" 5 ["map_used", "ray"] (spR K RApply)) (hray_transfer : Has P w K mg base "ray_transfer" 6 ["train"] (spR K RTransfer)) (hsubtract : Has P w K mg base "subtract" 4 ["first", "second"] (spR K RSub)) : Has P w K mg base "clearance" 7 ["train", "edge", "height", "ray"] (spR K RClear) :=
  has_pure F m (F.binds fun _ _ _ _ _ _ us hl => match us, hl with | [_, _, _, _], _ => rfl) scclearance (fun ds r ⟨_, _, _, e, _⟩ => by rw [e]; rfl) fun cdv A outer s H E hr => by
    refine ⟨_, (pss_cons (ps_set (i := 4) scclearance.nd rfl (Or.inl lk_clearance_there) (pe_ix (ix_seqK (K := K) rfl) (pe_c happly_map (hr.mono (by decide)) gk_clearance_apply_map (pa_cons (pe_c hray_transfer (hr.mono (by decide)) gk_clearance_ray_transfer (pa_cons (pe_slice (sl_listK (K := K) rfl) (pv 0 rfl (Or.inl lk_clearance_train)) po_none (po_some (pe_ix (ix_seqK (K := K) rfl) (pv 1 rfl (Or.inl lk_clearance_edge)) pe_int (fun _ _ => rfl)))) pa_nil)) (pa_cons (pv 3 rfl (Or.inl lk_clearance_ray)) pa_nil))) pe_int (fun _ _ => rfl))) (pss_cons (ps_if (pt_cmpR (op_eqK (K := K) rfl hr.units) (pe_ix (ix_seqK (K := K) rfl) (pv 1 rfl (Or.inl lk_clearance_edge)) pe_int (fun _ _ => rfl)) pe_str (nomark _)) (pss_one (ps_ret (pe_c hsubtract (hr.mono (by decide)) gk_clearance_subtract (pa_cons (pv 4 rfl (Or.inl lk_clearance_there)) (pa_cons (pv 2 rfl (Or.inl lk_clearance_height)) pa_nil))))) pss_nil) (pss_one (ps_ret (pe_c hsubtract (hr.mono (by decide)) gk_clearance_subtract (pa_cons (pv 2 rfl (Or.inl lk_clearance_height)) (pa_cons (pv 4 rfl (Or.inl lk_clearance_there)) pa_nil))))))), fun vs ds r G Q sG hv hR q => ?_⟩
    obtain ⟨t, e, y, rfl, ht, hle, hb, hy, rfl⟩ := hR
    obtain ⟨v1, v2, v3, v4, rfl, h1, h2, h3, h4⟩ := hv.four
    have e0 : EvD K (tVar 1) (start ["train", "edge", "height", "ray", "there"] [v1, v2, v3, v4]) G (ekey e) := evd_var rfl h2
    have tk := evd_cut (evd_var (σ := start ["train", "edge", "height", "ray", "there"] [v1, v2, v3, v4]) (i := 0) rfl h1) (evd_ixT (i := 0) e0 evd_int (d := .int (e.1 : Int)) rfl) (by rw [List.length_map]; exact hle)
    rw [← List.map_take] at tk
    have bt := app_bits (bits_transfer (ht.take e.1)) hy
    refine qa (evd_ixT (evd_call (es_cons (evd_call (es_cons tk es_nil) (R := RTransfer) ⟨_, rfl, ht.take e.1, rfl⟩) (es_cons (evd_var rfl h4) es_nil)) (R := RApply) ⟨_, y, rfl, bits_transfer (ht.take e.1), hy, rfl⟩) evd_int rfl) sG fun v5 G1 H1 e1 g1 => ?_
    change tSeq _ _ _ [some v1, some v2, some v3, some v4, some v5] H1
    refine qi (eb_val (evd_eqS (evd_ixT (evd_var rfl (h2.mono e1.g)) evd_int (d := .str (side e.2.1)) rfl) evd_str)) e1.sub fun G2 H2 e2 => ?_
    have g3 : EvD K (tVar 2) [some v1, some v2, some v3, some v4, some v5] G2 (fr e.2.2) := evd_var rfl (h3.mono (e1.trans e2).g)
    have g5 : EvD K (tVar 4) [some v1, some v2, some v3, some v4, some v5] G2 (fr ((transfer (t.take e.1)).app y).1) := evd_var rfl (g1.mono e2.g)
    obtain ⟨i, up, h⟩ := e
    cases up with
    | false =>
      refine ite_yes (decide_eq_true rfl) ?_
      exact sr (ev_sub g5 g3 bt.1.sz hb.sz) e2.sub fun v G3 H3 e3 k3 => q v G3 H3 ((e1.trans e2).trans e3) k3
    | true =>
      refine ite_no (decide_eq_false n_ul) ?_
      dsimp only [tNext]
      exact sr (ev_sub g3 g5 hb.sz bt.1.sz) e2.sub fun v G3 H3 e3 k3 => q v G3 H3 ((e1.trans e2).trans e3) k3
end
end Rt
namespace Rt
open PySem PySem.Spec PyProof.Rows L2 Evl
/-- a def that may raise, at its name -/
structure HasX (P : Program) (w : World) (K : PySem.W.Frag) (mg : Str → Option Value) (base : Heap) (x : Str) (k : Nat) (ps : List Str) (sp : Sp) : Prop where
  ex : ∃ f fd, FnOk P w K mg base (L2.CX P w) k f fd ps sp ∧ mg x = some (.ref f) ∧ PySem.W.keepIn K (.ref f) = true ∧ Binds K fd ps []
/-- its call where it raises nothing -/
theorem pe_cX {X : Cx} {x : Str} {k : Nat} {ps : List Str} {sp : Sp} {e : Expr} {es : List Expr} {p pos : Pos} {t : TA} (h : HasX X.prog X.w X.K X.mg X.base x k ps sp) (hr : Room k X.A) (hg : Gl X x) (ha : PA X (e :: es) t) (hdb : (x == ("__debug__" : Str)) = false := by decide)
    (he : starEach (e :: es) X.env = (false, eval e X.env) :: starEach es X.env := by rfl) (hpl : (backTo pos (starEach es X.env)).any (·.1) = false := by rfl) : PE X (.Call (.Name x p) (e :: es) [] pos) (tCall sp [] E0 t) := by
  obtain ⟨f, fd, F, m, kp, b⟩ := h.ex
  exact pe_call F hr hg m kp b .nil (fun _ _ _ _ _ _ _ c => by obtain ⟨_, _, _, _, _, _, _, _, _, _, _, _, z⟩ := c; exact z.elim) ha hdb he hpl
section
variable {K : PySem.W.Frag} {G : Hp} {σ : L2.St} {E : XK} {ta tb : TE} {C : Addr}
/-- clearances of some rays -/
theorem ev_clears {t : List El} {rs : List Ray} (ha : EvD K ta σ G (traind t)) (hb : EvD K tb σ G (.list (rs.map rayd))) (ht : Good t) (hl : rs.length ≤ 10) (hr : ∀ y ∈ rs, RayB y) (hn : rs ≠ []) :
    EvD K (tCall (spClears K C) [] E (tCons ta (tCons tb tNil))) σ G (.list ((told t rs).map told1)) := fun G1 H1 e1 s Q q =>
  es_cons ha (es_cons hb es_nil) G1 H1 e1 s _ fun vs G2 H2 e2 h2 => ⟨t, rs, G2, e2.sub, by rw [List.append_nil]; exact h2, ht, hl, hr, fun _ v G3 H3 e3 h3 => q v G3 H3 (e2.trans e3) h3, fun z => absurd z hn⟩
theorem evd_lcR {tl te : TE} {j : Nat} {vs : List Nat} {α : Type} {xs : List α} (d : α → PyData) (f : α → PyData) (h : EvD K tl σ G (.list (xs.map d))) (hz : xs.length ≤ 100000) (hw : ∀ x, wipe ((wipe σ vs).set j (some x)) vs = wipe σ vs)
    (he : ∀ (a : α) (v : V) G1, Ex G G1 → a ∈ xs → Is K G1 v (d a) → EvD K te ((wipe σ vs).set j (some v)) G1 (f a)) :
    EvD K (tLc (iList K tl) (gName j) tYes te vs) σ G (.list (xs.map f)) := fun G1 H1 e1 s Q q => h G1 H1 e1 s _ fun v G2 H2 e2 h2 => by
  obtain ⟨a, ys, rfl, hx, hs⟩ := h2.lstIn
  refine ⟨a, rfl, ⟨ys, SqL.of (e2.sub _ _ hx)⟩, fun D hD => ?_⟩
  have gD : G2 D = none := fresh_back e2.sub hD
  have hlen : ys.length = xs.length := by rw [hs.length, List.length_map]
  refine lc_list (K := K) (a := a) (xs := ys) (fun i H' => ∃ G' acc, Ext G2 H2 G' H' ∧ G' D = none ∧ H' D = some (.lst acc) ∧ acc.length ≤ i ∧ IsAll K G' acc ((xs.take i).map f)) ?_ (fun i H' _ ⟨G', _, e, _⟩ => SqL.of (e.h _ _ (e2.sub _ _ hx))) ?_ ?_
  · exact ⟨G2, [], (Ext.refl e2.sub).mut hD gD, gD, upd_same, Nat.le_refl _, .nil⟩
  · intro m x H' hm ⟨G', acc, ex, gD', hacc, hl, hall⟩
    obtain ⟨d', hd, hxd⟩ := (hs.mono ex.g).at hm
    rw [List.getElem?_map] at hd
    cases hp : xs[m]? with
    | none => rw [hp] at hd; cases hd
    | some p =>
      rw [hp] at hd
      obtain rfl := (Option.some.inj hd)
      have hmz : m < xs.length := (List.getElem?_eq_some_iff.mp hp).1
      refine ⟨hw x, ?_⟩
      dsimp only [tYes]
      rw [if_pos rfl]
      refine he p x G' ((e1.trans e2.g).trans ex.g) (List.mem_of_getElem? hp) hxd G' H' (Ex.refl _) ex.sub _ fun u G4 H4 e4 h4 => ⟨acc, e4.h _ _ hacc, sz_lt (by omega), ?_⟩
      have g4 : G4 D = none := e4.unseen gD' hacc
      refine ⟨G4, acc ++ [u], (ex.trans e4).mut hD g4, g4, upd_same, by rw [List.length_append, List.length_singleton]; omega, ?_⟩
      rw [take_snoc hp, List.map_append]
      exact (hall.mono e4.g).append (.cons h4 .nil)
  · intro H' ⟨G', acc, ex, gD', hacc, _, hall⟩
    rw [hlen, List.take_length] at hall
    exact q _ _ _ (e2.trans (ex.show hD gD' hacc)) (.lst upd_same (hall.mono (Ex.new gD')))
end
section
variable {w : World} {P : Program} {K : PySem.W.Frag} {mg : Str → Option Value} {base : Heap} {f : Addr} {fd : FuncData}
abbrev sclearances : Stmt := top 29
theorem scclearances : FnScope ["train", "rays", "ray", "edge", "height"] ["train", "rays"] (defScope sclearances) := ⟨rfl, rfl, rfl, by decide +kernel, rfl, by decide +kernel, by decide +kernel⟩
theorem lk_clearances_train : (defScope sclearances).names.lookup ("train" : Str) = some .cell := by decide +kernel
theorem lk_clearances_rays : (defScope sclearances).names.lookup ("rays" : Str) = some .cell := by decide +kernel
theorem gk_clearances_edges_of : (defScope sclearances).names.lookup ("edges_of" : Str) = some .globalImplicit := by decide +kernel
theorem gk_clearances_NoRays : (defScope sclearances).names.lookup ("NoRays" : Str) = some .globalImplicit := by decide +kernel
theorem has_clearances (F : Fun K "clearances" "clearances" sclearances f fd) (m : mg "clearances" = some (.ref f)) {C : Addr} (mNoRays : mg "NoRays" = some (.ref C)) (xNoRays : PySem.W.excIn K C [.type "ValueError", .type "Exception", .type "BaseException", .type "object"] "ValueError.__new__" = true)
    (kNoRays : PySem.W.keepIn K (.ref C) = true) (bNoRays : PySem.W.subIn K (.ref C) (.type "BaseException") = some true) (tNoRays : PySem.W.typeIn K (.ref C) = some (.type "type"))
    (hedges_of : Has P w K mg base "edges_of" 1 ["train"] (spR K REdges)) (hclearance : Has P w K mg base "clearance" 7 ["train", "edge", "height", "ray"] (spR K RClear)) (hleast_of : Has P w K mg base "least_of" 7 ["values"] (spR K RLeast)) : HasX P w K mg base "clearances" 8 ["train", "rays"] (spClears K C) := by
  refine ⟨f, fd, F.okX scclearances (fun vs H Q E h => ?_) (fun cdv A outer s H vs Q E hr h => ?_), m, F.kp, (F.binds fun _ _ _ _ _ _ us hl => match us, hl with | [_, _], _ => rfl)⟩
  · obtain ⟨t, rs, G, _, hv, _⟩ := h
    rw [hv.length]; rfl
  · refine ⟨_, (pss_cons (ps_if (pt_not (pt_trK (K := K) rfl (pv 1 rfl (Or.inr (Or.inl lk_clearances_rays))))) (pss_one (ps_raise rfl (takes_of rfl rfl rfl rfl) (pmk_own0 PySem.F.excBase_ValueError xNoRays mNoRays kNoRays (raises_own bNoRays tNoRays) gk_clearances_NoRays))) pss_nil) (pss_one (ps_ret (pe_lc (own := [("edge", 3), ("height", 4)]) (g := (gTup K 2 (gCons (gName 3) (gCons (gName 4) gNil)))) (tt := tYes) (by rfl) scclearances.nd (pi_listK (K := K) rfl (pe_c hedges_of (hr.mono (by decide)) gk_clearances_edges_of (pa_cons (pv 0 rfl (Or.inr (Or.inl lk_clearances_train))) pa_nil))) (blkOk_by (own := [("edge", 3), ("height", 4)]) (N := ["train", "rays", "ray", "edge", "height"]) (sc := defScope sclearances) (by decide +kernel)) (fun _ _ _ _ _ => (pg_tupK (K := K) rfl rfl (pgs_cons (pg_name (i := 3) scclearances.nd rfl (Or.inr rfl)) (pgs_cons (pg_name (i := 4) scclearances.nd rfl (Or.inr rfl)) pgs_nil)))) (fun _ _ _ _ _ => pts_nil) (fun _ _ _ _ _ => (pe_tup (pa_cons (pv 3) (pa_cons (pe_c hleast_of (hr.mono (by decide)) (by rfl) (pa_cons (pe_lc (own := [("ray", 2)]) (g := (gName 2)) (tt := tYes) (by rfl) scclearances.nd (pi_listK (K := K) rfl (pv 1)) (blkOk_by (own := [("ray", 2)]) (N := ["train", "rays", "ray", "edge", "height"]) (by rfl)) (fun _ _ _ _ _ => (pg_name (i := 2) scclearances.nd rfl (Or.inl rfl))) (fun _ _ _ _ _ => pts_nil) (fun _ _ _ _ _ => (pe_c hclearance (hr.mono (by decide)) (by rfl) (pa_cons (pv 0) (pa_cons (pv 3) (pa_cons (pv 4) (pa_cons (pv 2) pa_nil))))))) pa_nil)) pa_nil)))))))), ?_⟩
    obtain ⟨t, rs, G, sG, hv, ht, hl, hy, k1, k2⟩ := h
    obtain ⟨v, u, rfl, h1, h2⟩ := hv.two
    refine qi (eb_not (eb_truL (evd_var rfl h2))) sG fun G1 H1 e1 => ite_by (fun hn => ?_) fun hn => ?_
    · have : rs = [] := by cases rs with
        | nil => rfl
        | cons _ _ => cases hn
      exact k2 this G1 H1 e1
    · have hne : rs ≠ [] := by rintro rfl; cases hn
      dsimp only [tNext]
      have ht100 : t.length ≤ 100 := Nat.le_trans ht.1 (by decide)
      have hE : (edges t).length ≤ 100000 := Nat.le_trans (edgesFrom_len t 0) (by have := ht.1; omega)
      refine sr (evd_lcT (ps := edges t) ekey (fun e => fr e.2.2) (fun e => told1 (e, leastR (rs.map (clr t e)))) (evd_call (es_cons (evd_var rfl (h1.mono e1.g)) es_nil) (R := REdges) ⟨t, rfl, ht100, rfl⟩) hE (fun _ _ => rfl) ?_) e1.sub fun v G2 H2 e2 h2 => ?_
      · intro e x y G3 s3 he hx hyy
        obtain ⟨hi, hb⟩ := edge_small he ht.2
        refine evd_tup (es_cons (evd_var rfl hx) (es_cons (evd_call (es_cons (evd_lcR (xs := rs) rayd (fun r => fr (clr t e r)) (evd_var rfl (h2.mono (e1.g.trans s3))) (Nat.le_trans hl (by decide)) (fun _ => rfl) ?_) es_nil) (R := RLeast) ⟨rs.map (clr t e), ?_, ?_, ?_, rfl⟩) es_nil))
        · intro r z G4 s4 hr4 hz
          exact evd_call (es_cons (evd_var rfl (h1.mono ((e1.g.trans s3).trans s4))) (es_cons (evd_var rfl (hx.mono s4)) (es_cons (evd_var rfl (hyy.mono s4)) (es_cons (evd_var rfl hz) es_nil)))) (R := RClear) ⟨t, e, r, rfl, ht, Nat.le_of_lt hi, hb, hy r hr4, rfl⟩
        · rw [List.map_map]; rfl
        · rw [List.length_map]; exact Nat.le_trans hl (by decide)
        · intro x hx
          obtain ⟨r, hr', rfl⟩ := of_map hx
          exact (clr_bits ht hb (hy r hr')).sz
      · refine k1 hne v G2 H2 (e1.trans e2) ?_
        show Is K G2 v (.list ((((edges t).map fun e => (e, leastR (rs.map (clr t e))))).map told1))
        rw [List.map_map]
        exact h2
end
end Rt
namespace Rt
open PySem PySem.Spec PyProof.Rows L2 Evl
/-! ### the law's own walk -/
def StB (r : Ray) : Prop := B 1600 1600 r.1 ∧ B 1600 1600 r.2
def ltO (a : Option Rat) (x : Rat) : Bool := match a with
  | some y => decide (x < y)
  | none => false
def gtO (a : Option Rat) (x : Rat) : Bool := match a with
  | some y => decide (y < x)
  | none => false
def blocks (e : El) (r : Ray) : Bool := match e with
  | .stop lo hi => ltO lo r.1 || gtO hi r.1
  | _ => false
def exitR : List El → Ray → Option Ray
  | [], r => some r
  | e :: t, r => if blocks e r then none else exitR t (e.go r)
def orayd : Option Ray → PyData
  | none => .none
  | some r => rayd r
def RGo : Rl := fun ds r => ∃ (e : El) (y : Ray), ds = [e.dat, rayd y] ∧ e.good ∧ StB y ∧ r = rayd (e.go y)
def RBlocks : Rl := fun ds r => ∃ (e : El) (y : Ray), ds = [e.dat, rayd y] ∧ e.good ∧ StB y ∧ r = .bool (blocks e y)
def ROut : Rl := fun ds r => ∃ (t : List El) (y : Ray), ds = [traind t, rayd y] ∧ Good t ∧ RayB y ∧ r = rayd (out t y)
def RExit : Rl := fun ds r => ∃ (t : List El) (y : Ray), ds = [traind t, rayd y] ∧ Good t ∧ RayB y ∧ r = orayd (exitR t y)
theorem map_cols (t : List El) : let z := out t (0, 0); let a := out t (1, 0); let b := out t (0, 1); (⟨a.1 - z.1, b.1 - z.1, a.2 - z.2, b.2 - z.2, z.1, z.2⟩ : Mp) = transfer t := by
  simp only [out_eq]
  generalize transfer t = x
  obtain ⟨a, b, c, d, e, f⟩ := x
  simp only [Mp.app, Mp.mk.injEq]
  refine ⟨?_, ?_, ?_, ?_, ?_, ?_⟩ <;> grind
section
variable {w : World} {P : Program} {K : PySem.W.Frag} {mg : Str → Option Value} {base : Heap} {f : Addr} {fd : FuncData}
abbrev s_law_go : Stmt := top 51
theorem sc_law_go : FnScope ["_law_element_here", "_law_ray_here", "_law_height", "_law_slope"] ["_law_element_here", "_law_ray_here"] (defScope s_law_go) := ⟨rfl, rfl, rfl, by decide +kernel, rfl, by decide +kernel, by decide +kernel⟩
theorem lk__law_go__law_element_here : (defScope s_law_go).names.lookup ("_law_element_here" : Str) = some .local := by decide +kernel
theorem lk__law_go__law_ray_here : (defScope s_law_go).names.lookup ("_law_ray_here" : Str) = some .local := by decide +kernel
theorem lk__law_go__law_height : (defScope s_law_go).names.lookup ("_law_height" : Str) = some .local := by decide +kernel
theorem lk__law_go__law_slope : (defScope s_law_go).names.lookup ("_law_slope" : Str) = some .local := by decide +kernel
theorem gk__law_go__law_div : (defScope s_law_go).names.lookup ("_law_div" : Str) = some .globalImplicit := by decide +kernel
theorem gk__law_go__law_mul : (defScope s_law_go).names.lookup ("_law_mul" : Str) = some .globalImplicit := by decide +kernel
theorem gk__law_go__law_add : (defScope s_law_go).names.lookup ("_law_add" : Str) = some .globalImplicit := by decide +kernel
theorem gk__law_go__law_sub : (defScope s_law_go).names.lookup ("_law_sub" : Str) = some .globalImplicit := by decide +kernel
theorem has__law_go (F : Fun K "_law_go" "_law_go" s_law_go f fd) (m : mg "_law_go" = some (.ref f)) (h_law_add : Has P w K mg base "_law_add" 2 ["_law_one", "_law_other"] (spR K RAdd)) (h_law_sub : Has P w K mg base "_law_sub" 3 ["_law_one", "_law_other"] (spR K RSub)) (h_law_mul : Has P w K mg base "_law_mul" 2 ["_law_one", "_law_other"] (spR K RMul)) (h_law_div : Has P w K mg base "_law_div" 2 ["_law_one", "_law_other"] (spR K RDiv)) : Has P w K mg base "_law_go" 4 ["_law_element_here", "_law_ray_here"] (spR K RGo) :=
  has_pure F m (F.binds fun _ _ _ _ _ _ us hl => match us, hl with | [_, _], _ => rfl) sc_law_go (fun ds r ⟨_, _, e, _⟩ => by rw [e]; rfl) fun cdv A outer s H E hr => by
    refine ⟨_, (pss_cons (ps_asg (pv 1 rfl (Or.inl lk__law_go__law_ray_here)) (pg_tupK (K := K) rfl rfl (pgs_cons (pg_name (i := 2) sc_law_go.nd rfl (Or.inl lk__law_go__law_height)) (pgs_cons (pg_name (i := 3) sc_law_go.nd rfl (Or.inl lk__law_go__law_slope)) pgs_nil)))) (pss_cons (ps_if (pt_cmpR (op_eqK (K := K) rfl hr.units) (pe_ix (ix_seqK (K := K) rfl) (pv 0 rfl (Or.inl lk__law_go__law_element_here)) pe_int (fun _ _ => rfl)) pe_str (nomark _)) (pss_one (ps_ret (pe_tup (pa_cons (pe_c h_law_add (hr.mono (by decide)) gk__law_go__law_add (pa_cons (pv 2 rfl (Or.inl lk__law_go__law_height)) (pa_cons (pe_c h_law_mul (hr.mono (by decide)) gk__law_go__law_mul (pa_cons (pe_ix (ix_seqK (K := K) rfl) (pv 0 rfl (Or.inl lk__law_go__law_element_here)) pe_int (fun _ _ => rfl)) (pa_cons (pv 3 rfl (Or.inl lk__law_go__law_slope)) pa_nil))) pa_nil))) (pa_cons (pv 3 rfl (Or.inl lk__law_go__law_slope)) pa_nil))))) pss_nil) (pss_cons (ps_if (pt_cmpR (op_eqK (K := K) rfl hr.units) (pe_ix (ix_seqK (K := K) rfl) (pv 0 rfl (Or.inl lk__law_go__law_element_here)) pe_int (fun _ _ => rfl)) pe_str (nomark _)) (pss_one (ps_ret (pe_tup (pa_cons (pv 2 rfl (Or.inl lk__law_go__law_height)) (pa_cons (pe_c h_law_sub (hr.mono (by decide)) gk__law_go__law_sub (pa_cons (pv 3 rfl (Or.inl lk__law_go__law_slope)) (pa_cons (pe_c h_law_mul (hr.mono (by decide)) gk__law_go__law_mul (pa_cons (pe_ix (ix_seqK (K := K) rfl) (pv 0 rfl (Or.inl lk__law_go__law_element_here)) pe_int (fun _ _ => rfl)) (pa_cons (pe_c h_law_sub (hr.mono (by decide)) gk__law_go__law_sub (pa_cons (pv 2 rfl (Or.inl lk__law_go__law_height)) (pa_cons (pe_ix (ix_seqK (K := K) rfl) (pv 0 rfl (Or.inl lk__law_go__law_element_here)) pe_int (fun _ _ => rfl)) pa_nil))) pa_nil))) pa_nil))) pa_nil))))) pss_nil) (pss_cons (ps_if (pt_cmpR (op_eqK (K := K) rfl hr.units) (pe_ix (ix_seqK (K := K) rfl) (pv 0 rfl (Or.inl lk__law_go__law_element_here)) pe_int (fun _ _ => rfl)) pe_str (nomark _)) (pss_one (ps_ret (pe_tup (pa_cons (pv 2 rfl (Or.inl lk__law_go__law_height)) (pa_cons (pe_c h_law_add (hr.mono (by decide)) gk__law_go__law_add (pa_cons (pv 3 rfl (Or.inl lk__law_go__law_slope)) (pa_cons (pe_ix (ix_seqK (K := K) rfl) (pv 0 rfl (Or.inl lk__law_go__law_element_here)) pe_int (fun _ _ => rfl)) pa_nil))) pa_nil))))) pss_nil) (pss_cons (ps_if (pt_cmpR (op_eqK (K := K) rfl hr.units) (pe_ix (ix_seqK (K := K) rfl) (pv 0 rfl (Or.inl lk__law_go__law_element_here)) pe_int (fun _ _ => rfl)) pe_str (nomark _)) (pss_one (ps_ret (pe_tup (pa_cons (pe_c h_law_mul (hr.mono (by decide)) gk__law_go__law_mul (pa_cons (pe_ix (ix_seqK (K := K) rfl) (pv 0 rfl (Or.inl lk__law_go__law_element_here)) pe_int (fun _ _ => rfl)) (pa_cons (pv 2 rfl (Or.inl lk__law_go__law_height)) pa_nil))) (pa_cons (pe_c h_law_div (hr.mono (by decide)) gk__law_go__law_div (pa_cons (pv 3 rfl (Or.inl lk__law_go__law_slope)) (pa_cons (pe_ix (ix_seqK (K := K) rfl) (pv 0 rfl (Or.inl lk__law_go__law_element_here)) pe_int (fun _ _ => rfl)) pa_nil))) pa_nil))))) pss_nil) (pss_one (ps_ret (pv 1 rfl (Or.inl lk__law_go__law_ray_here))))))))), fun vs ds r G Q sG hv hR q => ?_⟩
    obtain ⟨e, y, rfl, hg, hy, rfl⟩ := hR
    obtain ⟨v1, v2, rfl, h1, h2⟩ := hv.two
    refine s_unp (evd_var rfl h2) sG rfl fun xs G1 H1 e1 hx => ?_
    obtain ⟨a, b, rfl, ga, gb⟩ := hx.two
    refine ⟨a, _, rfl, b, _, rfl, rfl, ?_⟩
    change tSeq _ _ _ [some v1, some v2, some a, some b] H1
    have e0 : ∀ {G9}, Ex G1 G9 → EvD K (tVar 0) [some v1, some v2, some a, some b] G9 e.dat := fun x => evd_var rfl (h1.mono (e1.g.trans x))
    have eh : ∀ {G9}, Ex G1 G9 → EvD K (tVar 2) [some v1, some v2, some a, some b] G9 (fr y.1) := fun x => evd_var rfl (ga.mono x)
    have es : ∀ {G9}, Ex G1 G9 → EvD K (tVar 3) [some v1, some v2, some a, some b] G9 (fr y.2) := fun x => evd_var rfl (gb.mono x)
    refine qi (eb_kind (e0 (Ex.refl _))) e1.sub fun G2 H2 e2 => ?_
    cases e with
    | gap l =>
      refine ite_yes (decide_eq_true rfl) ?_
      have bl : B 6 3 l := C.b53 hg.small
      exact sr (evd_tup (es_cons (ev_add (eh e2.g) (ev_mul (evd_ixT (e0 e2.g) evd_int rfl) (es e2.g) bl.sz hy.2.sz) hy.1.sz (bl.mul hy.2).sz) (es_cons (es e2.g) es_nil))) e2.sub fun v G9 H9 e9 h9 => q v G9 H9 ((e1.trans e2).trans e9) h9
    | lens p c =>
      refine ite_no (decide_eq_false n_lg) ?_
      dsimp only [tNext]
      refine qi (eb_kind (e0 e2.g)) e2.sub fun G3 H3 e3 => ite_yes (decide_eq_true rfl) ?_
      have x := (e2.trans e3).g
      have bp : B 6 3 p := C.b53 hg.small.1
      have bc : B 6 3 c := C.b53 hg.small.2
      have b1 := hy.1.sub bc (k := 1610) (by decide) (by decide)
      exact sr (evd_tup (es_cons (eh x) (es_cons (ev_sub (es x) (ev_mul (evd_ixT (e0 x) evd_int rfl) (ev_sub (eh x) (evd_ixT (e0 x) evd_int rfl) hy.1.sz bc.sz) bp.sz b1.sz) hy.2.sz (bp.mul b1).sz) es_nil))) e3.sub fun v G9 H9 e9 h9 => q v G9 H9 (((e1.trans e2).trans e3).trans e9) h9
    | prism d =>
      refine ite_no (decide_eq_false n_pg) ?_
      dsimp only [tNext]
      refine qi (eb_kind (e0 e2.g)) e2.sub fun G3 H3 e3 => ite_no (decide_eq_false n_pl) ?_
      dsimp only [tNext]
      refine qi (eb_kind (e0 (e2.trans e3).g)) e3.sub fun G4 H4 e4 => ite_yes (decide_eq_true rfl) ?_
      have x := ((e2.trans e3).trans e4).g
      have bd : B 6 3 d := C.b53 hg.small
      exact sr (evd_tup (es_cons (eh x) (es_cons (ev_add (es x) (evd_ixT (e0 x) evd_int rfl) hy.2.sz bd.sz) es_nil))) e4.sub fun v G9 H9 e9 h9 => q v G9 H9 ((((e1.trans e2).trans e3).trans e4).trans e9) h9
    | afocal m =>
      refine ite_no (decide_eq_false n_ag) ?_
      dsimp only [tNext]
      refine qi (eb_kind (e0 e2.g)) e2.sub fun G3 H3 e3 => ite_no (decide_eq_false n_al) ?_
      dsimp only [tNext]
      refine qi (eb_kind (e0 (e2.trans e3).g)) e3.sub fun G4 H4 e4 => ite_no (decide_eq_false n_ap) ?_
      dsimp only [tNext]
      refine qi (eb_kind (e0 ((e2.trans e3).trans e4).g)) e4.sub fun G5 H5 e5 => ite_yes (decide_eq_true rfl) ?_
      have x := (((e2.trans e3).trans e4).trans e5).g
      have bm : B 6 3 m := C.b53 hg.small.1
      exact sr (evd_tup (es_cons (ev_mul (evd_ixT (e0 x) evd_int rfl) (eh x) bm.sz hy.1.sz) (es_cons (ev_div (es x) (evd_ixT (e0 x) evd_int rfl) hg.ok hy.2.sz bm.sz) es_nil))) e5.sub fun v G9 H9 e9 h9 => q v G9 H9 (((((e1.trans e2).trans e3).trans e4).trans e5).trans e9) h9
    | stop lo hi =>
      refine ite_no (decide_eq_false n_sg) ?_
      dsimp only [tNext]
      refine qi (eb_kind (e0 e2.g)) e2.sub fun G3 H3 e3 => ite_no (decide_eq_false n_sl) ?_
      dsimp only [tNext]
      refine qi (eb_kind (e0 (e2.trans e3).g)) e3.sub fun G4 H4 e4 => ite_no (decide_eq_false n_sp) ?_
      dsimp only [tNext]
      refine qi (eb_kind (e0 ((e2.trans e3).trans e4).g)) e4.sub fun G5 H5 e5 => ite_no (decide_eq_false n_sa) ?_
      dsimp only [tNext]
      have x := (((e2.trans e3).trans e4).trans e5).g
      exact sr (evd_var rfl (h2.mono (e1.g.trans x))) e5.sub fun v G9 H9 e9 h9 => q v G9 H9 (((((e1.trans e2).trans e3).trans e4).trans e5).trans e9) h9
abbrev s_law_blocks : Stmt := top 52
theorem sc_law_blocks : FnScope ["_law_element_here", "_law_ray_here"] ["_law_element_here", "_law_ray_here"] (defScope s_law_blocks) := ⟨rfl, rfl, rfl, by decide +kernel, rfl, by decide +kernel, by decide +kernel⟩
theorem lk__law_blocks__law_element_here : (defScope s_law_blocks).names.lookup ("_law_element_here" : Str) = some .local := by decide +kernel
theorem lk__law_blocks__law_ray_here : (defScope s_law_blocks).names.lookup ("_law_ray_here" : Str) = some .local := by decide +kernel
theorem gk__law_blocks__law_less : (defScope s_law_blocks).names.lookup ("_law_less" : Str) = some .globalImplicit := by decide +kernel
theorem has__law_blocks (F : Fun K "_law_blocks" "_law_blocks" s_law_blocks f fd) (m : mg "_law_blocks" = some (.ref f)) (h_law_less : Has P w K mg base "_law_less" 1 ["_law_one", "_law_other"] (spR K RLess)) : Has P w K mg base "_law_blocks" 2 ["_law_element_here", "_law_ray_here"] (spR K RBlocks) :=
  has_pure F m (F.binds fun _ _ _ _ _ _ us hl => match us, hl with | [_, _], _ => rfl) sc_law_blocks (fun ds r ⟨_, _, e, _⟩ => by rw [e]; rfl) fun cdv A outer s H E hr => by
    refine ⟨_, (pss_cons (ps_if (pt_cmpR (op_neK (K := K) rfl hr.units) (pe_ix (ix_seqK (K := K) rfl) (pv 0 rfl (Or.inl lk__law_blocks__law_element_here)) pe_int (fun _ _ => rfl)) pe_str (nomark _)) (pss_one (ps_ret pe_bl)) pss_nil) (pss_cons (ps_if (PW.pt (pw_and (pt_cmpR op_notNo (pe_ix (ix_seqK (K := K) rfl) (pv 0 rfl (Or.inl lk__law_blocks__law_element_here)) pe_int (fun _ _ => rfl)) pe_non (nomark _)) (pw_and1 (pt_val (pe_c h_law_less (hr.mono (by decide)) gk__law_blocks__law_less (pa_cons (pe_ix (ix_seqK (K := K) rfl) (pv 1 rfl (Or.inl lk__law_blocks__law_ray_here)) pe_int (fun _ _ => rfl)) (pa_cons (pe_ix (ix_seqK (K := K) rfl) (pv 0 rfl (Or.inl lk__law_blocks__law_element_here)) pe_int (fun _ _ => rfl)) pa_nil))))))) (pss_one (ps_ret pe_bl)) pss_nil) (pss_one (ps_ret (pe_and (pe_cmpR op_notNo (pe_ix (ix_seqK (K := K) rfl) (pv 0 rfl (Or.inl lk__law_blocks__law_element_here)) pe_int (fun _ _ => rfl)) pe_non (nomark _)) (pe_one (pe_c h_law_less (hr.mono (by decide)) gk__law_blocks__law_less (pa_cons (pe_ix (ix_seqK (K := K) rfl) (pv 0 rfl (Or.inl lk__law_blocks__law_element_here)) pe_int (fun _ _ => rfl)) (pa_cons (pe_ix (ix_seqK (K := K) rfl) (pv 1 rfl (Or.inl lk__law_blocks__law_ray_here)) pe_int (fun _ _ => rfl)) pa_nil))))))))), fun vs ds r G Q sG hv hR q => ?_⟩
    obtain ⟨e, y, rfl, hg, hy, rfl⟩ := hR
    obtain ⟨v1, v2, rfl, h1, h2⟩ := hv.two
    have e0 : ∀ {G9}, Ex G G9 → EvD K (tVar 0) (start ["_law_element_here", "_law_ray_here"] [v1, v2]) G9 e.dat := fun x => evd_var rfl (h1.mono x)
    have ey : ∀ {G9}, Ex G G9 → EvD K (tOp (rIx K) (tVar 1) (tC (.int 0))) (start ["_law_element_here", "_law_ray_here"] [v1, v2]) G9 (fr y.1) := fun x => evd_ixT (ds := [fr y.1, fr y.2]) (evd_var rfl (h2.mono x)) evd_int rfl
    refine qi (eb_kindN (e0 (Ex.refl _))) sG fun G1 H1 e1 => ?_
    cases e with
    | gap _ => exact ite_yes (by show (!decide (("gap" : Str) = "stop")) = true; rw [decide_eq_false n_gs]; rfl) (sr evd_bl e1.sub fun v G9 H9 e9 h9 => q v G9 H9 (e1.trans e9) h9)
    | lens _ _ => exact ite_yes (by show (!decide (("lens" : Str) = "stop")) = true; rw [decide_eq_false n_ls]; rfl) (sr evd_bl e1.sub fun v G9 H9 e9 h9 => q v G9 H9 (e1.trans e9) h9)
    | prism _ => exact ite_yes (by show (!decide (("prism" : Str) = "stop")) = true; rw [decide_eq_false n_ps]; rfl) (sr evd_bl e1.sub fun v G9 H9 e9 h9 => q v G9 H9 (e1.trans e9) h9)
    | afocal _ => exact ite_yes (by show (!decide (("afocal" : Str) = "stop")) = true; rw [decide_eq_false n_as]; rfl) (sr evd_bl e1.sub fun v G9 H9 e9 h9 => q v G9 H9 (e1.trans e9) h9)
    | stop lo hi =>
      refine ite_no (by show (!decide (("stop" : Str) = "stop")) = false; rw [decide_eq_true rfl]; rfl) ?_
      dsimp only [tNext]
      have lo1 : EvB (tAnd (tTest (tOp rNotNo (tOp (rIx K) (tVar 0) (tC (.int 1))) (tC .non))) (tB (tCall (spR K RLess) [] E0 (tCons (tOp (rIx K) (tVar 1) (tC (.int 0))) (tCons (tOp (rIx K) (tVar 0) (tC (.int 1))) tNil))))) (start ["_law_element_here", "_law_ray_here"] [v1, v2]) G1 (ltO lo y.1) := by
        cases lo with
        | none => exact eb_and (a := false) (eb_val (evd_notN (evd_ixT (e0 e1.g) evd_int (d := .none) rfl))) (fun h => by cases h) (b := false)
        | some l => exact eb_and (a := true) (eb_val (evd_notN (evd_ixT (e0 e1.g) evd_int (d := fr l) rfl))) fun _ => eb_valB (ev_less (ey e1.g) (evd_ixT (e0 e1.g) evd_int rfl) hy.1.sz (hg.small.1 l rfl).b63.sz)
      refine qi lo1 e1.sub fun G2 H2 e2 => ite_by (fun ht => ?_) fun ht => ?_
      · have : blocks (.stop lo hi) y = true := by show (ltO lo y.1 || gtO hi y.1) = true; rw [ht]; rfl
        rw [this] at q
        exact sr evd_bl e2.sub fun v G9 H9 e9 h9 => q v G9 H9 ((e1.trans e2).trans e9) h9
      · have : blocks (.stop lo hi) y = gtO hi y.1 := by show (ltO lo y.1 || gtO hi y.1) = gtO hi y.1; rw [ht]; rfl
        rw [this] at q
        dsimp only [tNext]
        have x := (e1.trans e2).g
        refine sr ?_ e2.sub fun v G9 H9 e9 h9 => q v G9 H9 ((e1.trans e2).trans e9) h9
        cases hi with
        | none => exact evd_andV (a := false) (evd_notN (evd_ixT (e0 x) evd_int (d := .none) rfl)) (fun h => by cases h) (b := false)
        | some u => exact evd_andV (a := true) (evd_notN (evd_ixT (e0 x) evd_int (d := fr u) rfl)) fun _ => ev_less (evd_ixT (e0 x) evd_int rfl) (ey x) (hg.small.2 u rfl).b63.sz hy.1.sz
theorem out_snoc {t : List El} {i : Nat} {e : El} {y : Ray} (h : t[i]? = some e) : out (t.take (i + 1)) y = e.go (out (t.take i) y) := by
  rw [take_snoc h]; unfold out; rw [List.foldl_append]; rfl
abbrev s_law_out : Stmt := top 53
theorem sc_law_out : FnScope ["_law_train_here", "_law_ray_here", "_law_element_here"] ["_law_train_here", "_law_ray_here"] (defScope s_law_out) := ⟨rfl, rfl, rfl, by decide +kernel, rfl, by decide +kernel, by decide +kernel⟩
theorem lk__law_out__law_train_here : (defScope s_law_out).names.lookup ("_law_train_here" : Str) = some .local := by decide +kernel
theorem lk__law_out__law_ray_here : (defScope s_law_out).names.lookup ("_law_ray_here" : Str) = some .local := by decide +kernel
theorem lk__law_out__law_element_here : (defScope s_law_out).names.lookup ("_law_element_here" : Str) = some .local := by decide +kernel
theorem gk__law_out__law_go : (defScope s_law_out).names.lookup ("_law_go" : Str) = some .globalImplicit := by decide +kernel
theorem has__law_out (F : Fun K "_law_out" "_law_out" s_law_out f fd) (m : mg "_law_out" = some (.ref f)) (h_law_go : Has P w K mg base "_law_go" 4 ["_law_element_here", "_law_ray_here"] (spR K RGo)) : Has P w K mg base "_law_out" 5 ["_law_train_here", "_law_ray_here"] (spR K ROut) :=
  has_pure F m (F.binds fun _ _ _ _ _ _ us hl => match us, hl with | [_, _], _ => rfl) sc_law_out (fun ds r ⟨_, _, e, _⟩ => by rw [e]; rfl) fun cdv A outer s H E hr => by
    refine ⟨_, (pss_cons (ps_for PassesOwn.never rfl (pi_listK (K := K) rfl (pv 0 rfl (Or.inl lk__law_out__law_train_here))) (pg_name (i := 2) sc_law_out.nd rfl (Or.inl lk__law_out__law_element_here)) (pss_one (ps_set (i := 1) sc_law_out.nd rfl (Or.inl lk__law_out__law_ray_here) (pe_c h_law_go (hr.mono (by decide)) gk__law_out__law_go (pa_cons (pv 2 rfl (Or.inl lk__law_out__law_element_here)) (pa_cons (pv 1 rfl (Or.inl lk__law_out__law_ray_here)) pa_nil)))))) (pss_one (ps_ret (pv 1 rfl (Or.inl lk__law_out__law_ray_here))))), fun vs ds r G Q sG hv hR q => ?_⟩
    obtain ⟨t, y, rfl, ht, hy, rfl⟩ := hR
    obtain ⟨v1, v2, rfl, h1, h2⟩ := hv.two
    refine q_for (evd_var rfl h1) sG fun G1 H1 e1 => ⟨fun i σ' G' H' => Ext G1 H1 G' H' ∧ ∃ m u, σ' = [some v1, some m, u] ∧ Is K G' m (rayd (out (t.take i) y)), fun i σ' G' H' p => ⟨p.1.g, p.1.sub⟩, ⟨Ext.refl e1.sub, v2, none, rfl, h2.mono e1.g⟩, ?_, ?_⟩
    · rintro i d u σ' G' H' hd hu ⟨e, m, u0, rfl, hm⟩
      obtain ⟨el, hel, rfl⟩ := eld_mem hd
      refine sa (evd_call (es_cons (evd_var rfl hu) (es_cons (evd_var rfl hm) es_nil)) (R := RGo) ⟨el, _, rfl, ht.2 el (List.mem_of_getElem? hel), out_bits (ht.take i) hy, rfl⟩) e.sub fun v4 G4 H4 e4 g4 => ⟨G4, e.trans e4, v4, some u, rfl, ?_⟩
      rw [out_snoc hel]; exact g4
    · rintro σ' G' H' ⟨e, m, u0, rfl, hm⟩
      rw [List.length_map, List.take_length] at hm
      refine sr (evd_var rfl hm) e.sub fun v G3 H3 e3 h3 => ?_
      exact q v G3 H3 ((e1.trans e).trans e3) h3
abbrev s_law_exit : Stmt := top 54
theorem sc_law_exit : FnScope ["_law_train_here", "_law_ray_here", "_law_element_here"] ["_law_train_here", "_law_ray_here"] (defScope s_law_exit) := ⟨rfl, rfl, rfl, by decide +kernel, rfl, by decide +kernel, by decide +kernel⟩
theorem lk__law_exit__law_train_here : (defScope s_law_exit).names.lookup ("_law_train_here" : Str) = some .local := by decide +kernel
theorem lk__law_exit__law_ray_here : (defScope s_law_exit).names.lookup ("_law_ray_here" : Str) = some .local := by decide +kernel
theorem lk__law_exit__law_element_here : (defScope s_law_exit).names.lookup ("_law_element_here" : Str) = some .local := by decide +kernel
theorem gk__law_exit__law_go : (defScope s_law_exit).names.lookup ("_law_go" : Str) = some .globalImplicit := by decide +kernel
theorem gk__law_exit__law_blocks : (defScope s_law_exit).names.lookup ("_law_blocks" : Str) = some .globalImplicit := by decide +kernel
theorem has__law_exit (F : Fun K "_law_exit" "_law_exit" s_law_exit f fd) (m : mg "_law_exit" = some (.ref f)) (h_law_go : Has P w K mg base "_law_go" 4 ["_law_element_here", "_law_ray_here"] (spR K RGo)) (h_law_blocks : Has P w K mg base "_law_blocks" 2 ["_law_element_here", "_law_ray_here"] (spR K RBlocks)) : Has P w K mg base "_law_exit" 5 ["_law_train_here", "_law_ray_here"] (spR K RExit) :=
  has_pure F m (F.binds fun _ _ _ _ _ _ us hl => match us, hl with | [_, _], _ => rfl) sc_law_exit (fun ds r ⟨_, _, e, _⟩ => by rw [e]; rfl) fun cdv A outer s H E hr => by
    refine ⟨_, (pss_cons (ps_for PassesOwn.never rfl (pi_listK (K := K) rfl (pv 0 rfl (Or.inl lk__law_exit__law_train_here))) (pg_name (i := 2) sc_law_exit.nd rfl (Or.inl lk__law_exit__law_element_here)) (pss_cons (ps_if (pt_val (pe_c h_law_blocks (hr.mono (by decide)) gk__law_exit__law_blocks (pa_cons (pv 2 rfl (Or.inl lk__law_exit__law_element_here)) (pa_cons (pv 1 rfl (Or.inl lk__law_exit__law_ray_here)) pa_nil)))) (pss_one (ps_ret pe_non)) pss_nil) (pss_one (ps_set (i := 1) sc_law_exit.nd rfl (Or.inl lk__law_exit__law_ray_here) (pe_c h_law_go (hr.mono (by decide)) gk__law_exit__law_go (pa_cons (pv 2 rfl (Or.inl lk__law_exit__law_element_here)) (pa_cons (pv 1 rfl (Or.inl lk__law_exit__law_ray_here)) pa_nil))))))) (pss_one (ps_ret (pv 1 rfl (Or.inl lk__law_exit__law_ray_here))))), fun vs ds r G Q sG hv hR q => ?_⟩
    obtain ⟨t, y, rfl, ht, hy, rfl⟩ := hR
    obtain ⟨v1, v2, rfl, h1, h2⟩ := hv.two
    refine q_for (evd_var rfl h1) sG fun G1 H1 e1 => ⟨fun i σ' G' H' => Ext G1 H1 G' H' ∧ ∃ m u, σ' = [some v1, some m, u] ∧ Is K G' m (rayd (out (t.take i) y)) ∧ exitR t y = exitR (t.drop i) (out (t.take i) y), fun i σ' G' H' p => ⟨p.1.g, p.1.sub⟩, ⟨Ext.refl e1.sub, v2, none, rfl, h2.mono e1.g, rfl⟩, ?_, ?_⟩
    · rintro i d u σ' G' H' hd hu ⟨e, m, u0, rfl, hm, hex⟩
      obtain ⟨el, hel, rfl⟩ := eld_mem hd
      have gel := ht.2 el (List.mem_of_getElem? hel)
      have sb : StB (out (t.take i) y) := out_bits (ht.take i) hy
      have hdrop : t.drop i = el :: t.drop (i + 1) := by
        obtain ⟨hi, hh⟩ := List.getElem?_eq_some_iff.mp hel
        rw [List.drop_eq_getElem_cons hi, hh]
      rw [hdrop] at hex
      change tSeq _ _ _ [some v1, some m, some u] H'
      refine qi (eb_valB (evd_call (es_cons (evd_var rfl hu) (es_cons (evd_var rfl hm) es_nil)) (R := RBlocks) ⟨el, _, rfl, gel, sb, rfl⟩)) e.sub fun G2 H2 e2 => ite_by (fun hb => ?_) fun hb => ?_
      · have : exitR t y = none := by rw [hex]; unfold exitR; rw [if_pos hb]
        rw [this] at q
        exact sr evd_non e2.sub fun v G9 H9 e9 h9 => q v G9 H9 (((e1.trans e).trans e2).trans e9) h9
      · dsimp only [tNext]
        refine sa (evd_call (es_cons (evd_var rfl (hu.mono e2.g)) (es_cons (evd_var rfl (hm.mono e2.g)) es_nil)) (R := RGo) ⟨el, _, rfl, gel, sb, rfl⟩) e2.sub fun v4 G4 H4 e4 g4 => ⟨G4, (e.trans e2).trans e4, v4, some u, rfl, ?_, ?_⟩
        · rw [out_snoc hel]; exact g4
        · rw [out_snoc hel, hex]
          conv => lhs; unfold exitR
          rw [if_neg (fun z => by rw [hb] at z; cases z)]
    · rintro σ' G' H' ⟨e, m, u0, rfl, hm, hex⟩
      rw [List.length_map, List.take_length, List.drop_length] at hex
      rw [List.length_map, List.take_length] at hm
      have : exitR t y = some (out t y) := by rw [hex]; rfl
      rw [this] at q
      refine sr (evd_var rfl hm) e.sub fun v G3 H3 e3 h3 => ?_
      exact q v G3 H3 ((e1.trans e).trans e3) h3
theorem rayB_unit : RayB (0, 0) ∧ RayB (1, 0) ∧ RayB (0, 1) := by
  have z : B 700 700 0 := B.zero (by decide)
  have o : B 700 700 1 := B.one (by decide) (by decide)
  exact ⟨⟨z, z⟩, ⟨o, z⟩, ⟨z, o⟩⟩
abbrev s_law_map : Stmt := top 55
theorem sc_law_map : FnScope ["_law_train_here", "_law_zero", "_law_one", "_law_two", "_law_top", "_law_bottom"] ["_law_train_here"] (defScope s_law_map) := ⟨rfl, rfl, rfl, by decide +kernel, rfl, by decide +kernel, by decide +kernel⟩
theorem lk__law_map__law_train_here : (defScope s_law_map).names.lookup ("_law_train_here" : Str) = some .local := by decide +kernel
theorem lk__law_map__law_zero : (defScope s_law_map).names.lookup ("_law_zero" : Str) = some .local := by decide +kernel
theorem lk__law_map__law_one : (defScope s_law_map).names.lookup ("_law_one" : Str) = some .local := by decide +kernel
theorem lk__law_map__law_two : (defScope s_law_map).names.lookup ("_law_two" : Str) = some .local := by decide +kernel
theorem lk__law_map__law_top : (defScope s_law_map).names.lookup ("_law_top" : Str) = some .local := by decide +kernel
theorem lk__law_map__law_bottom : (defScope s_law_map).names.lookup ("_law_bottom" : Str) = some .local := by decide +kernel
theorem gk__law_map__law_sub : (defScope s_law_map).names.lookup ("_law_sub" : Str) = some .globalImplicit := by decide +kernel
theorem gk__law_map__law_out : (defScope s_law_map).names.lookup ("_law_out" : Str) = some .globalImplicit := by decide +kernel
theorem has__law_map (F : Fun K "_law_map" "_law_map" s_law_map f fd) (m : mg "_law_map" = some (.ref f)) (h_law_out : Has P w K mg base "_law_out" 5 ["_law_train_here", "_law_ray_here"] (spR K ROut)) (h_law_sub : Has P w K mg base "_law_sub" 3 ["_law_one", "_law_other"] (spR K RSub)) : Has P w K mg base "_law_map" 6 ["_law_train_here"] (spR K RTransfer) :=
  has_pure F m (F.binds fun _ _ _ _ _ _ us hl => match us, hl with | [_], _ => rfl) sc_law_map (fun ds r ⟨_, e, _⟩ => by rw [e]; rfl) fun cdv A outer s H E hr => by
    refine ⟨_, (pss_cons (ps_set (i := 1) sc_law_map.nd rfl (Or.inl lk__law_map__law_zero) (pe_c h_law_out (hr.mono (by decide)) gk__law_map__law_out (pa_cons (pv 0 rfl (Or.inl lk__law_map__law_train_here)) (pa_cons (pe_tup (pa_cons (pe_tup (pa_cons pe_int (pa_cons pe_int pa_nil))) (pa_cons (pe_tup (pa_cons pe_int (pa_cons pe_int pa_nil))) pa_nil))) pa_nil)))) (pss_cons (ps_set (i := 2) sc_law_map.nd rfl (Or.inl lk__law_map__law_one) (pe_c h_law_out (hr.mono (by decide)) gk__law_map__law_out (pa_cons (pv 0 rfl (Or.inl lk__law_map__law_train_here)) (pa_cons (pe_tup (pa_cons (pe_tup (pa_cons pe_int (pa_cons pe_int pa_nil))) (pa_cons (pe_tup (pa_cons pe_int (pa_cons pe_int pa_nil))) pa_nil))) pa_nil)))) (pss_cons (ps_set (i := 3) sc_law_map.nd rfl (Or.inl lk__law_map__law_two) (pe_c h_law_out (hr.mono (by decide)) gk__law_map__law_out (pa_cons (pv 0 rfl (Or.inl lk__law_map__law_train_here)) (pa_cons (pe_tup (pa_cons (pe_tup (pa_cons pe_int (pa_cons pe_int pa_nil))) (pa_cons (pe_tup (pa_cons pe_int (pa_cons pe_int pa_nil))) pa_nil))) pa_nil)))) (pss_cons (ps_set (i := 4) sc_law_map.nd rfl (Or.inl lk__law_map__law_top) (pe_tup (pa_cons (pe_c h_law_sub (hr.mono (by decide)) gk__law_map__law_sub (pa_cons (pe_ix (ix_seqK (K := K) rfl) (pv 2 rfl (Or.inl lk__law_map__law_one)) pe_int (fun _ _ => rfl)) (pa_cons (pe_ix (ix_seqK (K := K) rfl) (pv 1 rfl (Or.inl lk__law_map__law_zero)) pe_int (fun _ _ => rfl)) pa_nil))) (pa_cons (pe_c h_law_sub (hr.mono (by decide)) gk__law_map__law_sub (pa_cons (pe_ix (ix_seqK (K := K) rfl) (pv 3 rfl (Or.inl lk__law_map__law_two)) pe_int (fun _ _ => rfl)) (pa_cons (pe_ix (ix_seqK (K := K) rfl) (pv 1 rfl (Or.inl lk__law_map__law_zero)) pe_int (fun _ _ => rfl)) pa_nil))) pa_nil)))) (pss_cons (ps_set (i := 5) sc_law_map.nd rfl (Or.inl lk__law_map__law_bottom) (pe_tup (pa_cons (pe_c h_law_sub (hr.mono (by decide)) gk__law_map__law_sub (pa_cons (pe_ix (ix_seqK (K := K) rfl) (pv 2 rfl (Or.inl lk__law_map__law_one)) pe_int (fun _ _ => rfl)) (pa_cons (pe_ix (ix_seqK (K := K) rfl) (pv 1 rfl (Or.inl lk__law_map__law_zero)) pe_int (fun _ _ => rfl)) pa_nil))) (pa_cons (pe_c h_law_sub (hr.mono (by decide)) gk__law_map__law_sub (pa_cons (pe_ix (ix_seqK (K := K) rfl) (pv 3 rfl (Or.inl lk__law_map__law_two)) pe_int (fun _ _ => rfl)) (pa_cons (pe_ix (ix_seqK (K := K) rfl) (pv 1 rfl (Or.inl lk__law_map__law_zero)) pe_int (fun _ _ => rfl)) pa_nil))) pa_nil)))) (pss_one (ps_ret (pe_op (op_addK (K := K) rfl) (pe_op (op_addK (K := K) rfl) (pv 4 rfl (Or.inl lk__law_map__law_top)) (pv 5 rfl (Or.inl lk__law_map__law_bottom))) (pv 1 rfl (Or.inl lk__law_map__law_zero)))))))))), fun vs ds r G Q sG hv hR q => ?_⟩
    obtain ⟨t, rfl, ht, rfl⟩ := hR
    obtain ⟨v1, rfl, h1⟩ := hv.one
    have fz : ∀ {σ G9}, EvD K (tTup (tCons (tC (.int 0)) (tCons (tC (.int 1)) tNil))) σ G9 (fr 0) := evd_tup (es_cons evd_int (es_cons evd_int es_nil))
    have fo : ∀ {σ G9}, EvD K (tTup (tCons (tC (.int 1)) (tCons (tC (.int 1)) tNil))) σ G9 (fr 1) := evd_tup (es_cons evd_int (es_cons evd_int es_nil))
    refine qa (evd_call (es_cons (evd_var rfl h1) (es_cons (evd_tup (es_cons fz (es_cons fz es_nil))) es_nil)) (R := ROut) ⟨t, (0, 0), rfl, ht, rayB_unit.1, rfl⟩) sG fun vz G1 H1 e1 gz => ?_
    refine qa (evd_call (es_cons (evd_var rfl (h1.mono e1.g)) (es_cons (evd_tup (es_cons fo (es_cons fz es_nil))) es_nil)) (R := ROut) ⟨t, (1, 0), rfl, ht, rayB_unit.2.1, rfl⟩) e1.sub fun va G2 H2 e2 ga => ?_
    refine qa (evd_call (es_cons (evd_var rfl (h1.mono (e1.trans e2).g)) (es_cons (evd_tup (es_cons fz (es_cons fo es_nil))) es_nil)) (R := ROut) ⟨t, (0, 1), rfl, ht, rayB_unit.2.2, rfl⟩) e2.sub fun vb G3 H3 e3 gb => ?_
    change tSeq _ _ _ [some v1, some vz, some va, some vb, none, none] H3
    have bz := out_bits ht rayB_unit.1
    have ba := out_bits ht rayB_unit.2.1
    have bb := out_bits ht rayB_unit.2.2
    have ez : ∀ {σ : L2.St} {G9}, σ[1]? = some (some vz) → Ex G3 G9 → EvD K (tVar 1) σ G9 (rayd (out t (0, 0))) := fun hs x => evd_var hs (gz.mono ((e2.trans e3).g.trans x))
    have ea : ∀ {σ : L2.St} {G9}, σ[2]? = some (some va) → Ex G3 G9 → EvD K (tVar 2) σ G9 (rayd (out t (1, 0))) := fun hs x => evd_var hs (ga.mono (e3.g.trans x))
    have eb : ∀ {σ : L2.St} {G9}, σ[3]? = some (some vb) → Ex G3 G9 → EvD K (tVar 3) σ G9 (rayd (out t (0, 1))) := fun hs x => evd_var hs (gb.mono x)
    refine qa (evd_tup (es_cons (ev_sub (evd_ixT (ea rfl (Ex.refl _)) evd_int rfl) (evd_ixT (ez rfl (Ex.refl _)) evd_int rfl) ba.1.sz bz.1.sz) (es_cons (ev_sub (evd_ixT (eb rfl (Ex.refl _)) evd_int rfl) (evd_ixT (ez rfl (Ex.refl _)) evd_int rfl) bb.1.sz bz.1.sz) es_nil))) e3.sub fun vt G4 H4 e4 gt => ?_
    refine qa (evd_tup (es_cons (ev_sub (evd_ixT (ea rfl e4.g) evd_int rfl) (evd_ixT (ez rfl e4.g) evd_int rfl) ba.2.sz bz.2.sz) (es_cons (ev_sub (evd_ixT (eb rfl e4.g) evd_int rfl) (evd_ixT (ez rfl e4.g) evd_int rfl) bb.2.sz bz.2.sz) es_nil))) e4.sub fun vu G5 H5 e5 gu => ?_
    refine sr (evd_catT (evd_catT (evd_var rfl (gt.mono e5.g)) (evd_var rfl gu)) (ez rfl (e4.trans e5).g)) e5.sub fun v G6 H6 e6 g6 => ?_
    rw [← map_cols t] at q
    exact q v G6 H6 (((((e1.trans e2).trans e3).trans e4).trans e5).trans e6) g6
end
end Rt
namespace Rt
open PySem PySem.Spec PyProof.Rows L2 Evl
/-! ### half-planes -/
abbrev pld (x : Pl) : PyData := .tuple [.int x.1, .int x.2.1, .int x.2.2]
def PlBits (n : Nat) (x : Pl) : Prop := x.1.natAbs < 2 ^ n ∧ x.2.1.natAbs < 2 ^ n ∧ x.2.2.natAbs < 2 ^ n
def e7 : Nat := 700
def e14 : Nat := 1400
def e21 : Nat := 2100
def e28 : Nat := 2800
def RPlane : Rl := fun ds r => ∃ p q u : Rat, ds = [fr p, fr q, fr u] ∧ (p ≠ 0 ∨ q ≠ 0) ∧ B e7 e7 p ∧ B e7 e7 q ∧ B e7 e7 u ∧ r = pld (planeOf p q u)
def planeE (t : List El) (e : Edge) : Pl :=
  if e.2.1 then planeOf (transfer (t.take e.1)).a (transfer (t.take e.1)).b (e.2.2 - (transfer (t.take e.1)).e) else planeOf (-(transfer (t.take e.1)).a) (-(transfer (t.take e.1)).b) ((transfer (t.take e.1)).e - e.2.2)
def REdgesL : Rl := fun ds r => ∃ t, ds = [traind t] ∧ Good t ∧ r = .list ((edges t).map fun e => .tuple [ekey e, pld (planeE t e)])
def RPlanes : Rl := fun ds r => ∃ t, ds = [traind t] ∧ Good t ∧ r = .list (((edges t).map (planeE t)).map pld)
theorem B.denA {n d : Nat} {x : Rat} (h : B n d x) : ((x.den : Int)).natAbs < 2 ^ d := by rw [Int.natAbs_natCast]; exact h.2
theorem whole_sz {p q u : Rat} (hp : B e7 e7 p) (hq : B e7 e7 q) (hu : B e7 e7 u) : (whole p q u).natAbs < 2 ^ e21 := by
  unfold whole
  exact abs_mul_lt (n := e14) (m := e7) (abs_mul_lt (n := e7) (m := e7) hp.denA hq.denA) hu.denA
theorem part_sz {W : Int} {x : Rat} (hW : W.natAbs < 2 ^ e21) (hx : B e7 e7 x) : (part W x).natAbs < 2 ^ e28 := by
  unfold part
  exact abs_mul_lt (n := e7) (m := e21) hx.1 (Nat.lt_of_le_of_lt (div_le W x.den) hW)
theorem neg_ne {x : Rat} (h : x ≠ 0) : -x ≠ 0 := fun e => h (by grind)
theorem planeE_size {t : List El} {e : Edge} (ht : Good t) (he : e ∈ edges t) : PlBits 72 (planeE t e) ∧ ((transfer (t.take e.1)).a ≠ 0 ∨ (transfer (t.take e.1)).b ≠ 0) := by
  obtain ⟨j, lo, hi, h1, h2, h3⟩ := edges_mem t 0 e he
  rw [Nat.zero_add] at h1
  have hj : j < t.length := (List.getElem?_eq_some_iff.mp h2).1
  have hlt : e.1 ≤ 7 := by have := ht.1; omega
  have g := ht.take e.1
  have sz := size_transfer fun x hx => (g.2 x hx).small
  have ne := top_ne fun x hx => (g.2 x hx).ok
  have hlen : (t.take e.1).length = e.1 := by rw [List.length_take]; omega
  rw [hlen] at sz
  have he48 : C 6 48 e.2.2 := by
    have s := (ht.2 _ (List.mem_of_getElem? h2)).small
    rcases h3 with ⟨_, h3⟩ | ⟨_, h3⟩
    · exact s.1 _ h3
    · exact s.2 _ h3
  refine ⟨?_, ne⟩
  have l1 : (36 : Nat) ^ e.1 ≤ 180 ^ e.1 := Nat.pow_le_pow_left (by decide) _
  have l2 : (180 : Nat) ^ e.1 ≤ 180 ^ 7 := Nat.pow_le_pow_right (by decide) hlt
  have l3 : 216 * (180 : Nat) ^ 7 < 2 ^ 72 := by decide
  have p0 : (36 : Nat) ^ e.1 ≠ 0 := Nat.ne_of_gt (Nat.pow_pos (by decide))
  have up : ∀ {x}, C (36 ^ e.1) (4 * 180 ^ e.1) x → C (36 ^ e.1 * 6) (216 * 180 ^ e.1) x := fun h => (h.scale 6).mono (by omega)
  have hh : C (36 ^ e.1 * 6) (48 * 36 ^ e.1) e.2.2 := by rw [Nat.mul_comm (36 ^ e.1) 6]; exact he48.scale _
  have he' : C (36 ^ e.1 * 6) (24 * 180 ^ e.1) (transfer (t.take e.1)).e := (sz.e.scale 6).mono (by omega)
  have fin : ∀ {p q u : Rat}, (p ≠ 0 ∨ q ≠ 0) → C (36 ^ e.1 * 6) (216 * 180 ^ e.1) p → C (36 ^ e.1 * 6) (216 * 180 ^ e.1) q → C (36 ^ e.1 * 6) (216 * 180 ^ e.1) u → PlBits 72 (planeOf p q u) := fun h a b c => by
    obtain ⟨x, y, z⟩ := plane_size (by omega) h a b c
    exact ⟨(by omega), (by omega), (by omega)⟩
  unfold planeE
  split
  · exact fin ne (up sz.a) (up sz.b) ((hh.sub he').mono (by omega))
  · exact fin (ne.imp neg_ne neg_ne) (up sz.a).neg (up sz.b).neg ((he'.sub hh).mono (by omega))
section
variable {w : World} {P : Program} {K : PySem.W.Frag} {mg : Str → Option Value} {base : Heap} {f : Addr} {fd : FuncData}
def shareTo (ps : List Int) : Nat := ps.foldl (fun g x => Nat.gcd g x.natAbs) 0
theorem shareTo_snoc {ps : List Int} {i : Nat} {x : Int} (h : ps[i]? = some x) : shareTo (ps.take (i + 1)) = Nat.gcd (shareTo (ps.take i)) x.natAbs := by
  unfold shareTo; rw [take_snoc h, List.foldl_append]; rfl
theorem mulW {i j : Int} {a b : Nat} (h1 : i.natAbs < 2 ^ a) (h2 : j.natAbs < 2 ^ b) (h3 : 0 < a := by decide) (h4 : 0 < b := by decide) (h5 : a + b ≤ 1000000 := by decide) : CMulW i j := wide_mul h1 h2 h3 h4 h5
theorem divW {n : Int} {g k : Nat} (h0 : g ≠ 0) (h : g < 2 ^ k) (h3 : 0 < k := by decide) (h4 : k ≤ 9000 := by decide) : CDivX n (g : Int) := ⟨by omega, Nat.lt_of_lt_of_le (PySem.Flt.log2_lt_of (k := k) h3 (by simpa using h)) h4⟩
theorem fdiv_nat (n : Int) (g : Nat) : n.fdiv (g : Int) = n / (g : Int) := Int.fdiv_eq_ediv_of_nonneg n (Int.natCast_nonneg g)
abbrev s_law_plane : Stmt := top 56
theorem sc_law_plane : FnScope ["_law_p", "_law_q", "_law_r", "_law_whole", "_law_parts", "_law_share", "_law_part", "_law_one"] ["_law_p", "_law_q", "_law_r"] (defScope s_law_plane) := ⟨rfl, rfl, rfl, by decide +kernel, rfl, by decide +kernel, by decide +kernel⟩
theorem lk__law_plane__law_p : (defScope s_law_plane).names.lookup ("_law_p" : Str) = some .local := by decide +kernel
theorem lk__law_plane__law_q : (defScope s_law_plane).names.lookup ("_law_q" : Str) = some .local := by decide +kernel
theorem lk__law_plane__law_r : (defScope s_law_plane).names.lookup ("_law_r" : Str) = some .local := by decide +kernel
theorem lk__law_plane__law_whole : (defScope s_law_plane).names.lookup ("_law_whole" : Str) = some .cell := by decide +kernel
theorem lk__law_plane__law_parts : (defScope s_law_plane).names.lookup ("_law_parts" : Str) = some .local := by decide +kernel
theorem lk__law_plane__law_share : (defScope s_law_plane).names.lookup ("_law_share" : Str) = some .local := by decide +kernel
theorem lk__law_plane__law_part : (defScope s_law_plane).names.lookup ("_law_part" : Str) = some .local := by decide +kernel
theorem lk__law_plane__law_one : (defScope s_law_plane).names.lookup ("_law_one" : Str) = some .local := by decide +kernel
theorem gk__law_plane_int : (defScope s_law_plane).names.lookup ("int" : Str) = some .globalImplicit := by decide +kernel
theorem gk__law_plane_abs : (defScope s_law_plane).names.lookup ("abs" : Str) = some .globalImplicit := by decide +kernel
theorem has__law_plane (F : Fun K "_law_plane" "_law_plane" s_law_plane f fd) (m : mg "_law_plane" = some (.ref f)) (zAbs : mg "abs" = none) (zInt : mg "int" = none) : Has P w K mg base "_law_plane" 1 ["_law_p", "_law_q", "_law_r"] (spR K RPlane) :=
  has_pure F m (F.binds fun _ _ _ _ _ _ us hl => match us, hl with | [_, _, _], _ => rfl) sc_law_plane (fun ds r ⟨_, _, _, e, _⟩ => by rw [e]; rfl) fun cdv A outer s H E hr => by
    refine ⟨_, (pss_cons (ps_set (i := 3) sc_law_plane.nd rfl (Or.inr lk__law_plane__law_whole) (pe_op op_mulI (pe_op op_mulI (pe_ix (ix_seqK (K := K) rfl) (pv 0 rfl (Or.inl lk__law_plane__law_p)) pe_int (fun _ _ => rfl)) (pe_ix (ix_seqK (K := K) rfl) (pv 1 rfl (Or.inl lk__law_plane__law_q)) pe_int (fun _ _ => rfl))) (pe_ix (ix_seqK (K := K) rfl) (pv 2 rfl (Or.inl lk__law_plane__law_r)) pe_int (fun _ _ => rfl)))) (pss_cons (ps_setLc (i := 4) (own := [("_law_part", 6)]) (g := (gName 6)) (tt := tYes) (by rfl) sc_law_plane.nd rfl rfl (sw_true rfl rfl rfl (by decide +kernel)) (pi_listK (K := K) rfl (pe_lst (pa_cons (pv 0 rfl (Or.inl lk__law_plane__law_p)) (pa_cons (pv 1 rfl (Or.inl lk__law_plane__law_q)) (pa_cons (pv 2 rfl (Or.inl lk__law_plane__law_r)) pa_nil))))) (blkOk_by (own := [("_law_part", 6)]) (N := ["_law_p", "_law_q", "_law_r", "_law_whole", "_law_parts", "_law_share", "_law_part", "_law_one"]) (sc := defScope s_law_plane) (by decide +kernel)) (fun _ _ _ _ _ => (pg_name (i := 6) sc_law_plane.nd rfl (Or.inl rfl))) (fun _ _ _ _ _ => pts_nil) (fun _ _ _ _ _ => (pe_op op_mulI (pe_ix (ix_seqK (K := K) rfl) (pv 6) pe_int (fun _ _ => rfl)) (pe_op op_divI (pv 3) (pe_ix (ix_seqK (K := K) rfl) (pv 6) pe_int (fun _ _ => rfl)))))) (pss_cons (ps_set (i := 5) sc_law_plane.nd rfl (Or.inl lk__law_plane__law_share) pe_int) (pss_cons (ps_for PassesOwn.never rfl (pi_listK (K := K) rfl (pv 4 rfl (Or.inl lk__law_plane__law_parts))) (pg_name (i := 6) sc_law_plane.nd rfl (Or.inl lk__law_plane__law_part)) (pss_cons (ps_set (i := 7) sc_law_plane.nd rfl (Or.inl lk__law_plane__law_one) (pe_callB call_absI gk__law_plane_abs zAbs (by decide +kernel) (pa_cons (pv 6 rfl (Or.inl lk__law_plane__law_part)) pa_nil))) (pss_one (ps_while PassesOwn.never (pt_cmpR op_gtI (pv 7 rfl (Or.inl lk__law_plane__law_one)) pe_int (nomark _)) (pss_one (ps_par (i := 5) (j := 7) (by rfl) sc_law_plane.nd rfl rfl (by decide) lk__law_plane__law_share lk__law_plane__law_one (pa_cons (pv 7 rfl (Or.inl lk__law_plane__law_one)) (pa_cons (pe_op op_modI (pe_callTy call_toI gk__law_plane_int zInt (by decide +kernel) (pa_cons (pv 5 rfl (Or.inl lk__law_plane__law_share)) pa_nil)) (pv 7 rfl (Or.inl lk__law_plane__law_one))) pa_nil)) (by rfl))))))) (pss_one (ps_ret (pe_tup (pa_cons (pe_op op_divI (pe_ix (ix_seqK (K := K) rfl) (pv 4 rfl (Or.inl lk__law_plane__law_parts)) pe_int (fun _ _ => rfl)) (pv 5 rfl (Or.inl lk__law_plane__law_share))) (pa_cons (pe_op op_divI (pe_ix (ix_seqK (K := K) rfl) (pv 4 rfl (Or.inl lk__law_plane__law_parts)) pe_int (fun _ _ => rfl)) (pv 5 rfl (Or.inl lk__law_plane__law_share))) (pa_cons (pe_op op_divI (pe_ix (ix_seqK (K := K) rfl) (pv 4 rfl (Or.inl lk__law_plane__law_parts)) pe_int (fun _ _ => rfl)) (pv 5 rfl (Or.inl lk__law_plane__law_share))) pa_nil)))))))))), fun vs ds r G Q sG hv hR q => ?_⟩
    obtain ⟨x, y, z, rfl, hne, hx, hy, hz, rfl⟩ := hR
    obtain ⟨v1, v2, v3, rfl, h1, h2, h3⟩ := hv.three
    have dx : ((x.den : Int)).natAbs < 2 ^ e7 := hx.denA
    have dy : ((y.den : Int)).natAbs < 2 ^ e7 := hy.denA
    have dz : ((z.den : Int)).natAbs < 2 ^ e7 := hz.denA
    have hW := whole_sz hx hy hz
    refine qa (evd_mul (evd_mul (evd_ixT (ds := [.int x.num, .int (x.den : Int)]) (evd_var rfl h1) evd_int rfl) (evd_ixT (ds := [.int y.num, .int (y.den : Int)]) (evd_var rfl h2) evd_int rfl) (mulW dx dy)) (evd_ixT (ds := [.int z.num, .int (z.den : Int)]) (evd_var rfl h3) evd_int rfl) (mulW (a := e14) (abs_mul_lt (n := e7) (m := e7) dx dy) dz)) sG fun vw G1 H1 e1 g1 => ?_
    obtain rfl := g1.intIn
    change tSeq _ _ _ [some v1, some v2, some v3, some (.int (whole x y z)), none, none, none, none] H1
    have h1' := h1.mono e1.g
    have h2' := h2.mono e1.g
    have h3' := h3.mono e1.g
    refine qa (evd_lcR (xs := [x, y, z]) fr (fun u => .int (part (whole x y z) u)) (evd_lst (es_cons (evd_var rfl h1') (es_cons (evd_var rfl h2') (es_cons (evd_var rfl h3') es_nil)))) (by simp) (fun _ => rfl) ?_) e1.sub fun vp G2 H2 e2 g2 => ?_
    · intro u v G9 s9 hu hv9
      have bu : B e7 e7 u := by
        rcases of_cons hu with rfl | hu
        · exact hx
        · rcases of_cons hu with rfl | hu
          · exact hy
          · rcases of_cons hu with rfl | hu
            · exact hz
            · cases hu
      have eu : EvD K (tVar 6) ((wipe [some v1, some v2, some v3, some (.int (whole x y z)), none, none, none, none] [6]).set 6 (some v)) G9 (fr u) := evd_var rfl hv9
      have ew : EvD K (tVar 3) ((wipe [some v1, some v2, some v3, some (.int (whole x y z)), none, none, none, none] [6]).set 6 (some v)) G9 (.int (whole x y z)) := evd_var rfl (.int _)
      have t := evd_mul (ev_num eu) (evd_div ew (ev_den eu) (divW (k := e7) u.den_nz bu.2)) (by rw [fdiv_nat]; exact mulW (a := e7) (b := e21) bu.1 (Nat.lt_of_le_of_lt (div_le _ _) hW))
      rw [fdiv_nat] at t
      exact t
    change tSeq _ _ _ [some v1, some v2, some v3, some (.int (whole x y z)), some vp, none, none, none] H2
    refine qa (K := K) evd_int e2.sub fun v5 G3 H3 e3 g3 => ?_
    obtain rfl := g3.intIn
    generalize hP : ([x, y, z].map fun u => part (whole x y z) u) = ps at *
    have hps : ps = [part (whole x y z) x, part (whole x y z) y, part (whole x y z) z] := hP.symm
    have hdat : ([x, y, z].map fun u => PyData.int (part (whole x y z) u)) = ps.map PyData.int := by rw [hps]; rfl
    rw [hdat] at g2
    have pd : EvD K (tVar 4) [some v1, some v2, some v3, some (.int (whole x y z)), some vp, some (.int 0), none, none] G3 (.list (ps.map PyData.int)) := evd_var rfl (g2.mono e3.g)
    refine q_for pd e3.sub fun G4 H4 e4 => ⟨fun i σ' G' H' => Ext G4 H4 G' H' ∧ ∃ a b, σ' = [some v1, some v2, some v3, some (.int (whole x y z)), some vp, some (.int (shareTo (ps.take i) : Int)), a, b], fun i σ' G' H' p => ⟨p.1.g, p.1.sub⟩, ⟨Ext.refl e4.sub, none, none, rfl⟩, ?_, ?_⟩
    · rintro i d u σ' G' H' hd hu ⟨e, a0, b0, rfl⟩
      rw [List.getElem?_map] at hd
      cases hpi : ps[i]? with
      | none => rw [hpi] at hd; cases hd
      | some pi =>
        rw [hpi] at hd
        obtain rfl := Option.some.inj hd
        obtain rfl := hu.intIn
        change tSeq _ _ _ [some v1, some v2, some v3, some (.int (whole x y z)), some vp, some (.int (shareTo (ps.take i) : Int)), some (.int pi), b0] H'
        refine qa (K := K) (evd_abs (evd_var rfl (.int pi))) e.sub fun v7 G5 H5 e5 g5 => ?_
        obtain rfl := g5.intIn
        refine ⟨fun m σ H' => ∃ (a b : Nat) (G' : Hp), m = b ∧ σ = [some v1, some v2, some v3, some (.int (whole x y z)), some vp, some (.int a), some (.int pi), some (.int b)] ∧ Nat.gcd a b = Nat.gcd (shareTo (ps.take i)) pi.natAbs ∧ Ext G4 H4 G' H', ⟨pi.natAbs, _, _, G5, rfl, rfl, rfl, e.trans e5⟩, ?_⟩
        rintro b σ H6 ⟨a, _, G6, rfl, rfl, hg, e6⟩
        refine eb_val (K := K) (evd_gt (evd_var rfl (.int (b : Int))) evd_int) G6 H6 (Ex.refl _) e6.sub _ fun G7 H7 e7 => ?_
        refine ite_by (fun hb => ?_) fun hb => ?_
        · have hb' : 0 < (b : Int) := of_decide_eq_true hb
          refine ⟨fun σ' H' => ∃ (a' b' : Nat) (G' : Hp), b' < b ∧ σ' = [some v1, some v2, some v3, some (.int (whole x y z)), some vp, some (.int a'), some (.int pi), some (.int b')] ∧ Nat.gcd a' b' = Nat.gcd (shareTo (ps.take i)) pi.natAbs ∧ Ext G4 H4 G' H', fun σ' H' ⟨a', b', G', h1, h2, h3, h4⟩ => ⟨b', h1, a', b', G', rfl, h2, h3, h4⟩, ?_⟩
          refine es_cons (K := K) (evd_var (v := .int b) rfl (.int (b : Int))) (es_cons (evd_mod (evd_toInt (evd_var rfl (.int (a : Int)))) (evd_var rfl (.int (b : Int))) hb') es_nil) G7 H7 (Ex.refl _) e7.sub _ fun vs G8 H8 e8 h8 => ?_
          obtain ⟨v, u, rfl, k1, k2⟩ := h8.two
          obtain rfl := k1.intIn
          obtain rfl := k2.intIn
          refine ⟨_, _, rfl, b, a % b, G8, Nat.mod_lt _ (by omega), ?_, by rw [gcd_turn]; exact hg, (e6.trans e7).trans e8⟩
          rw [mod_nat]
          rfl
        · have hb' : ¬ 0 < (b : Int) := of_decide_eq_false hb
          have b00 : b = 0 := by omega
          subst b00
          rw [Nat.gcd_zero_right] at hg
          refine ⟨G7, e6.trans e7, some (.int pi), some (.int ((0 : Nat) : Int)), ?_⟩
          rw [shareTo_snoc hpi, ← hg]
    · rintro σ' G' H' ⟨e, a0, b0, rfl⟩
      rw [List.length_map]; rw [List.take_length]
      have hs : shareTo ps = gcd3 (part (whole x y z) x) (part (whole x y z) y) (part (whole x y z) z) := by rw [hps]; rfl
      have hne' := share_ne (r := z) hne
      rw [← hs] at hne'
      have hsz : shareTo ps < 2 ^ e28 := by
        rw [hs] at hne' ⊢
        rcases hne with h | h
        · exact Nat.lt_of_le_of_lt (Nat.le_of_dvd (Int.natAbs_pos.mpr (part_ne (whole_pos ..) (dvd1 ..) h)) (Int.ofNat_dvd_left.mp (gcd3_dvd1 ..))) (part_sz hW hx)
        · exact Nat.lt_of_le_of_lt (Nat.le_of_dvd (Int.natAbs_pos.mpr (part_ne (whole_pos ..) (dvd2 ..) h)) (Int.ofNat_dvd_left.mp (gcd3_dvd2 ..))) (part_sz hW hy)
      have pl : EvD K (tVar 4) [some v1, some v2, some v3, some (.int (whole x y z)), some vp, some (.int (shareTo ps : Int)), a0, b0] G' (.list (ps.map PyData.int)) := evd_var rfl ((g2.mono (e3.trans e4).g).mono e.g)
      have sv : EvD K (tVar 5) [some v1, some v2, some v3, some (.int (whole x y z)), some vp, some (.int (shareTo ps : Int)), a0, b0] G' (.int (shareTo ps : Int)) := evd_var rfl (.int _)
      have it : ∀ {k : Int} {n : Int}, atI (ps.map PyData.int) k = some (.int n) → EvD K (tOp rDivI (tOp (rIx K) (tVar 4) (tC (.int k))) (tVar 5)) [some v1, some v2, some v3, some (.int (whole x y z)), some vp, some (.int (shareTo ps : Int)), a0, b0] G' (.int (n / (shareTo ps : Int))) := fun hk => by
        have t := evd_div (evd_ixL pl evd_int hk) sv (divW (k := e28) hne' hsz)
        rw [fdiv_nat] at t
        exact t
      have fin := evd_tup (es_cons (it (k := 0) (n := part (whole x y z) x) (by rw [hps]; rfl)) (es_cons (it (k := 1) (n := part (whole x y z) y) (by rw [hps]; rfl)) (es_cons (it (k := 2) (n := part (whole x y z) z) (by rw [hps]; rfl)) es_nil)))
      rw [hs] at fin
      rw [hs]
      refine sr fin e.sub fun v G9 H9 e9 h9 => ?_
      exact q v G9 H9 (((((e1.trans e2).trans e3).trans e4).trans e).trans e9) h9
end
end Rt
namespace Rt
open PySem PySem.Spec PyProof.Rows L2 Evl
/-! ### lines, rows, bounds -/
abbrev lnd (l : Ln) : PyData := .tuple [fr l.1, fr l.2.1, fr l.2.2]
def bdsd : Option Bds → PyData
  | none => .tuple []
  | some b => .tuple [ofr b.1, ofr b.2]
def dirP (dir : Bool) : Rat := if dir then 0 else 1
def dirQ (dir : Bool) : Rat := if dir then 1 else 0
def RLine : Rl := fun ds r => ∃ (x : Pl) (dir : Bool), ds = [pld x, fr (dirP dir), fr (dirQ dir)] ∧ PlBits 222 x ∧ r = lnd (lineOf dir x)
def RBounds : Rl := fun ds r => ∃ (ps : List Pl) (dir : Bool), ds = [.list (ps.map pld), fr (dirP dir), fr (dirQ dir)] ∧ ps.length ≤ 20 ∧ (∀ x ∈ ps, PlBits 222 x) ∧ r = bdsd (boundsOf (rowsOf (ps.map (lineOf dir))))
def REmpty : Rl := fun ds r => ∃ ps : List Pl, ds = [.list (ps.map pld)] ∧ ps.length ≤ 20 ∧ (∀ x ∈ ps, PlBits 222 x) ∧ r = .bool (boundsOf (rowsOf (ps.map (lineOf false)))).isNone
def RNear : Rl := fun ds r => ∃ b : Bds, ds = [bdsd (some b)] ∧ r = fr (nearOf b)
structure LnB (l : Ln) : Prop where
  a : B 222 1 l.1
  b : B 222 1 l.2.1
  c : B 222 1 l.2.2
structure RwB (l : Ln) : Prop where
  a : B 447 225 l.1
  c : B 447 225 l.2.2
theorem LnB.rw {l : Ln} (h : LnB l) : RwB l := ⟨h.a.mono (by decide) (by decide), h.c.mono (by decide) (by decide)⟩
theorem lineB {x : Pl} (h : PlBits 222 x) (dir : Bool) : LnB (lineOf dir x) := by
  cases dir
  · exact ⟨.int h.1, .int h.2.1, .int h.2.2⟩
  · exact ⟨.int h.2.1, .int h.1, .int h.2.2⟩
theorem shareB {x y : Ln} (hx : LnB x) (hy : LnB y) (h : y.2.1 ≠ 0) : B 223 223 (shareOf x y) := ((hx.b.div hy.b h).neg).mono (by decide) (by decide)
theorem combB {x y : Ln} (hx : LnB x) (hy : LnB y) (h : y.2.1 ≠ 0) : RwB (comb x y) :=
  ⟨(hx.a.add ((shareB hx hy h).mul hy.a) (k := 447) (by decide) (by decide)).mono (by decide) (by decide), (hx.c.add ((shareB hx hy h).mul hy.c) (k := 447) (by decide) (by decide)).mono (by decide) (by decide)⟩
theorem rowsB {ls : List Ln} (h : ∀ l ∈ ls, LnB l) : ∀ r ∈ rowsOf ls, RwB r := by
  intro r hr
  rcases of_append hr with hr | hr
  · exact (h r (List.mem_filter.mp hr).1).rw
  · obtain ⟨x, hx, hc⟩ := List.mem_flatMap.mp hr
    obtain ⟨y, hy, rfl⟩ := of_map hc
    obtain ⟨y1, y2⟩ := List.mem_filter.mp hy
    exact combB (h x (List.mem_filter.mp hx).1) (h y y1) (Rat.ne_of_lt (num_neg.mp (of_decide_eq_true y2)))
theorem quotB {r : Ln} (h : RwB r) (h0 : r.1 ≠ 0) : B 672 672 (r.2.2 / r.1) := (h.c.div h.a h0).mono (by decide) (by decide)
theorem lowersB {rs : List Ln} (h : ∀ r ∈ rs, RwB r) : ∀ x ∈ lowers rs, B 672 672 x := by
  intro x hx
  obtain ⟨r, hr, rfl⟩ := of_map hx
  obtain ⟨r1, r2⟩ := List.mem_filter.mp hr
  exact quotB (h r r1) (Rat.ne_of_lt (num_neg.mp (of_decide_eq_true r2)))
theorem uppersB {rs : List Ln} (h : ∀ r ∈ rs, RwB r) : ∀ x ∈ uppers rs, B 672 672 x := by
  intro x hx
  obtain ⟨r, hr, rfl⟩ := of_map hx
  obtain ⟨r1, r2⟩ := List.mem_filter.mp hr
  exact quotB (h r r1) (Rat.ne_of_gt (num_pos.mp (of_decide_eq_true r2)))
theorem boundsB {rs : List Ln} {b : Bds} (h : ∀ r ∈ rs, RwB r) (e : boundsOf rs = some b) : B 672 672 (nearOf b) := by
  unfold boundsOf at e
  split at e
  · cases e
  split at e
  · cases e
  cases e
  have hz : B 672 672 0 := .zero (by decide)
  cases e1 : greatestR (lowers rs) with
  | none =>
    cases e2 : leastR (uppers rs) with
    | none => exact hz
    | some u =>
      show B 672 672 (if u < 0 then u else 0)
      split
      · exact uppersB h u (least_some e2).1
      · exact hz
  | some l =>
    have hl := lowersB h l (greatest_some e1).1
    cases e2 : leastR (uppers rs) with
    | none =>
      show B 672 672 (if 0 < l then l else 0)
      split
      · exact hl
      · exact hz
    | some u =>
      show B 672 672 (if 0 < l then l else if u < 0 then u else 0)
      split
      · exact hl
      · split
        · exact uppersB h u (least_some e2).1
        · exact hz
theorem flen {ls : List Ln} (p : Ln → Bool) (h : ls.length ≤ 20) : (ls.filter p).length ≤ 20 := Nat.le_trans (List.length_filter_le ..) h
section
variable {w : World} {P : Program} {K : PySem.W.Frag} {mg : Str → Option Value} {base : Heap} {f : Addr} {fd : FuncData}
section
variable {G H G0 H0 : Hp} {σ : L2.St} {te : TE} {tt : TT}
/-- a comprehension over a tuple -/
theorem evd_lcU {tl : TE} {j : Nat} {vs : List Nat} {α : Type} {xs : List α} (d : α → PyData) (g : α → PyData) (h : EvD K tl σ G (.tuple (xs.map d))) (hz : xs.length ≤ 100000) (hw : ∀ x, wipe ((wipe σ vs).set j (some x)) vs = wipe σ vs)
    (he : ∀ (a : α) (v : V) G1, Ex G G1 → a ∈ xs → Is K G1 v (d a) → EvD K te ((wipe σ vs).set j (some v)) G1 (g a)) :
    EvD K (tLc (iTup K tl) (gName j) tYes te vs) σ G (.list (xs.map g)) := fun G1 H1 e1 s Q q => h G1 H1 e1 s _ fun v G2 H2 e2 h2 => by
  obtain ⟨a, ys, rfl, hx, hs⟩ := h2.tupIn
  refine ⟨a, rfl, ⟨ys, ex_t e2.sub hx⟩, fun D hD => ?_⟩
  have gD : G2 D = none := fresh_back e2.sub hD
  have hlen : ys.length = xs.length := by rw [hs.length, List.length_map]
  refine lc_tup (K := K) (a := a) (xs := ys) (fun i H' => ∃ G' acc, Ext G2 H2 G' H' ∧ G' D = none ∧ H' D = some (.lst acc) ∧ acc.length ≤ i ∧ IsAll K G' acc ((xs.take i).map g)) ?_ (fun i H' _ ⟨G', _, e, _⟩ => ex_t e.h (ex_t e2.sub hx)) ?_ ?_
  · exact ⟨G2, [], (Ext.refl e2.sub).mut hD gD, gD, upd_same, Nat.le_refl _, .nil⟩
  · intro m x H' hm ⟨G', acc, ex, gD', hacc, hl, hall⟩
    obtain ⟨d', hd, hxd⟩ := (hs.mono ex.g).at hm
    rw [List.getElem?_map] at hd
    cases hp : xs[m]? with
    | none => rw [hp] at hd; cases hd
    | some p =>
      rw [hp] at hd
      obtain rfl := (Option.some.inj hd)
      have hmz : m < xs.length := (List.getElem?_eq_some_iff.mp hp).1
      refine ⟨hw x, ?_⟩
      dsimp only [tYes]
      rw [if_pos rfl]
      refine he p x G' ((e1.trans e2.g).trans ex.g) (List.mem_of_getElem? hp) hxd G' H' (Ex.refl _) ex.sub _ fun u G4 H4 e4 h4 => ⟨acc, e4.h _ _ hacc, sz_lt (by omega), ?_⟩
      have g4 : G4 D = none := e4.unseen gD' hacc
      refine ⟨G4, acc ++ [u], (ex.trans e4).mut hD g4, g4, upd_same, by rw [List.length_append, List.length_singleton]; omega, ?_⟩
      rw [take_snoc hp, List.map_append]
      exact (hall.mono e4.g).append (.cons h4 .nil)
  · intro H' ⟨G', acc, ex, gD', hacc, _, hall⟩
    rw [hlen, List.take_length] at hall
    exact q _ _ _ (e2.trans (ex.show hD gD' hacc)) (.lst upd_same (hall.mono (Ex.new gD')))
/-- [x for x in xs if p x]: a new list that is not seen yet -/
theorem lc_filter {tl : TE} {j : Nat} {vs : List Nat} {α : Type} {xs : List α} (d : α → PyData) (p : α → Bool) (h : EvD K tl σ G (.list (xs.map d))) (hz : xs.length ≤ 100000) (hj : ∀ x : V, ((wipe σ vs).set j (some x))[j]? = some (some x)) (hw : ∀ x, wipe ((wipe σ vs).set j (some x)) vs = wipe σ vs)
    (ht : ∀ (a : α) (v : V) G1, Ex G G1 → a ∈ xs → Is K G1 v (d a) → EvB tt ((wipe σ vs).set j (some v)) G1 (p a)) {H : Hp} (s : Ex G H) {Q : VK}
    (q : ∀ D acc G2 H2, Ext G H G2 H2 → H D = none → G2 D = none → H2 D = some (.lst acc) → acc.length ≤ xs.length → IsAll K G2 acc ((xs.filter p).map d) → Q (.ref D) H2) :
    (tLc (iList K tl) (gName j) tt (tVar j) vs) σ H Q := h G H (Ex.refl _) s _ fun v G2 H2 e2 h2 => by
  obtain ⟨a, ys, rfl, hx, hs⟩ := h2.lstIn
  refine ⟨a, rfl, ⟨ys, SqL.of (e2.sub _ _ hx)⟩, fun D hD => ?_⟩
  have gD : G2 D = none := fresh_back e2.sub hD
  have hlen : ys.length = xs.length := by rw [hs.length, List.length_map]
  refine lc_list (K := K) (a := a) (xs := ys) (fun i H' => ∃ G' acc, Ext G2 H2 G' H' ∧ G' D = none ∧ H' D = some (.lst acc) ∧ acc.length ≤ i ∧ IsAll K G' acc (((xs.take i).filter p).map d)) ?_ (fun i H' _ ⟨G', _, e, _⟩ => SqL.of (e.h _ _ (e2.sub _ _ hx))) ?_ ?_
  · exact ⟨G2, [], (Ext.refl e2.sub).mut hD gD, gD, upd_same, Nat.le_refl _, .nil⟩
  · intro m x H' hm ⟨G', acc, ex, gD', hacc, hl, hall⟩
    obtain ⟨d', hd, hxd⟩ := (hs.mono ex.g).at hm
    rw [List.getElem?_map] at hd
    cases hp : xs[m]? with
    | none => rw [hp] at hd; cases hd
    | some u =>
      rw [hp] at hd
      obtain rfl := (Option.some.inj hd)
      have hmz : m < xs.length := (List.getElem?_eq_some_iff.mp hp).1
      refine ⟨hw x, ht u x G' (e2.g.trans ex.g) (List.mem_of_getElem? hp) hxd G' H' (Ex.refl _) ex.sub _ fun G3 H3 e3 => ite_by (fun hb => ?_) fun hb => ?_⟩
      · refine ⟨x, hj x, acc, e3.h _ _ hacc, sz_lt (by omega), ?_⟩
        have g3 : G3 D = none := e3.unseen gD' hacc
        refine ⟨G3, acc ++ [x], (ex.trans e3).mut hD g3, g3, upd_same, by rw [List.length_append, List.length_singleton]; omega, ?_⟩
        rw [take_snoc hp, List.filter_append, List.filter_cons_of_pos hb, List.filter_nil, List.map_append]
        exact (hall.mono e3.g).append (.cons (hxd.mono e3.g) .nil)
      · refine ⟨G3, acc, ex.trans e3, e3.unseen gD' hacc, e3.h _ _ hacc, by omega, ?_⟩
        rw [take_snoc hp, List.filter_append, List.filter_cons_of_neg (by rw [hb]; exact Bool.false_ne_true), List.filter_nil, List.append_nil]
        exact hall.mono e3.g
  · intro H' ⟨G', acc, ex, gD', hacc, hl, hall⟩
    rw [hlen, List.take_length] at hall
    rw [hlen] at hl
    exact q D acc _ _ (e2.trans ex) (fresh_back e2.h hD) gD' hacc hl hall
theorem q_lcf {tl : TE} {i j : Nat} {vs : List Nat} {α : Type} {xs : List α} {tz : TS} {Z : Ends} (d : α → PyData) (p : α → Bool) (h : EvD K tl σ G (.list (xs.map d))) (hz : xs.length ≤ 100000) (hj : ∀ x : V, ((wipe σ vs).set j (some x))[j]? = some (some x)) (hw : ∀ x, wipe ((wipe σ vs).set j (some x)) vs = wipe σ vs)
    (ht : ∀ (a : α) (v : V) G1, Ex G G1 → a ∈ xs → Is K G1 v (d a) → EvB tt ((wipe σ vs).set j (some v)) G1 (p a)) {H : Hp} (s : Ex G H)
    (q : ∀ D acc G2 H2, Ext G H G2 H2 → H D = none → G2 D = none → H2 D = some (.lst acc) → acc.length ≤ xs.length → IsAll K G2 acc ((xs.filter p).map d) → tz Z (σ.set i (some (.ref D))) H2) :
    tSeq (tAsg (tLc (iList K tl) (gName j) tt (tVar j) vs) (gName i)) tz Z σ H := lc_filter (Q := fun x H1 => gName i x σ H1 (tz Z)) d p h hz hj hw ht s q
/-- .. that is seen -/
theorem evd_filter {tl : TE} {j : Nat} {vs : List Nat} {α : Type} {xs : List α} (d : α → PyData) (p : α → Bool) (h : EvD K tl σ G (.list (xs.map d))) (hz : xs.length ≤ 100000) (hj : ∀ x : V, ((wipe σ vs).set j (some x))[j]? = some (some x)) (hw : ∀ x, wipe ((wipe σ vs).set j (some x)) vs = wipe σ vs)
    (ht : ∀ (a : α) (v : V) G1, Ex G G1 → a ∈ xs → Is K G1 v (d a) → EvB tt ((wipe σ vs).set j (some v)) G1 (p a)) :
    EvD K (tLc (iList K tl) (gName j) tt (tVar j) vs) σ G (.list ((xs.filter p).map d)) := fun G1 H1 e1 s Q q =>
  lc_filter d p (h.mono e1) hz hj hw (fun a v G2 e2 => ht a v G2 (e1.trans e2)) s fun D acc G2 H2 e2 hD gD hacc hl hall => q _ _ _ (e2.show hD gD hacc) (.lst upd_same (hall.mono (Ex.new gD)))
end
abbrev s_law_line : Stmt := top 59
theorem sc_law_line : FnScope ["_law_plane_here", "_law_p", "_law_q", "_law_a", "_law_b", "_law_c", "_law_share", "_law_part"] ["_law_plane_here", "_law_p", "_law_q"] (defScope s_law_line) := ⟨rfl, rfl, rfl, by decide +kernel, rfl, by decide +kernel, by decide +kernel⟩
theorem lk__law_line__law_plane_here : (defScope s_law_line).names.lookup ("_law_plane_here" : Str) = some .local := by decide +kernel
theorem lk__law_line__law_p : (defScope s_law_line).names.lookup ("_law_p" : Str) = some .local := by decide +kernel
theorem lk__law_line__law_q : (defScope s_law_line).names.lookup ("_law_q" : Str) = some .local := by decide +kernel
theorem lk__law_line__law_a : (defScope s_law_line).names.lookup ("_law_a" : Str) = some .local := by decide +kernel
theorem lk__law_line__law_b : (defScope s_law_line).names.lookup ("_law_b" : Str) = some .local := by decide +kernel
theorem lk__law_line__law_c : (defScope s_law_line).names.lookup ("_law_c" : Str) = some .local := by decide +kernel
theorem lk__law_line__law_share : (defScope s_law_line).names.lookup ("_law_share" : Str) = some .local := by decide +kernel
theorem gk__law_line__law_div : (defScope s_law_line).names.lookup ("_law_div" : Str) = some .globalImplicit := by decide +kernel
theorem gk__law_line__law_sub : (defScope s_law_line).names.lookup ("_law_sub" : Str) = some .globalImplicit := by decide +kernel
theorem gk__law_line__law_mul : (defScope s_law_line).names.lookup ("_law_mul" : Str) = some .globalImplicit := by decide +kernel
theorem has__law_line (F : Fun K "_law_line" "_law_line" s_law_line f fd) (m : mg "_law_line" = some (.ref f)) (h_law_sub : Has P w K mg base "_law_sub" 3 ["_law_one", "_law_other"] (spR K RSub)) (h_law_mul : Has P w K mg base "_law_mul" 2 ["_law_one", "_law_other"] (spR K RMul)) (h_law_div : Has P w K mg base "_law_div" 2 ["_law_one", "_law_other"] (spR K RDiv)) : Has P w K mg base "_law_line" 4 ["_law_plane_here", "_law_p", "_law_q"] (spR K RLine) :=
  has_pure F m (F.binds fun _ _ _ _ _ _ us hl => match us, hl with | [_, _, _], _ => rfl) sc_law_line (fun ds r ⟨_, _, e, _⟩ => by rw [e]; rfl) fun cdv A outer s H E hr => by
    refine ⟨_, (pss_cons (ps_asg (pe_lc (own := [("_law_part", 7)]) (g := (gName 7)) (tt := tYes) (by rfl) sc_law_line.nd (pi_tupK (K := K) rfl (pv 0 rfl (Or.inl lk__law_line__law_plane_here))) (blkOk_by (own := [("_law_part", 7)]) (N := ["_law_plane_here", "_law_p", "_law_q", "_law_a", "_law_b", "_law_c", "_law_share", "_law_part"]) (sc := defScope s_law_line) (by decide +kernel)) (fun _ _ _ _ _ => (pg_name (i := 7) sc_law_line.nd rfl (Or.inl rfl))) (fun _ _ _ _ _ => pts_nil) (fun _ _ _ _ _ => (pe_tup (pa_cons (pv 7) (pa_cons pe_int pa_nil))))) (pg_unlK (K := K) rfl rfl (pgs_cons (pg_name (i := 3) sc_law_line.nd rfl (Or.inl lk__law_line__law_a)) (pgs_cons (pg_name (i := 4) sc_law_line.nd rfl (Or.inl lk__law_line__law_b)) (pgs_cons (pg_name (i := 5) sc_law_line.nd rfl (Or.inl lk__law_line__law_c)) pgs_nil))))) (pss_cons (ps_if (pt_cmpR (op_neK (K := K) rfl hr.units) (pe_ix (ix_seqK (K := K) rfl) (pv 2 rfl (Or.inl lk__law_line__law_q)) pe_int (fun _ _ => rfl)) pe_int (nomark _)) (pss_cons (ps_set (i := 6) sc_law_line.nd rfl (Or.inl lk__law_line__law_share) (pe_c h_law_div (hr.mono (by decide)) gk__law_line__law_div (pa_cons (pv 4 rfl (Or.inl lk__law_line__law_b)) (pa_cons (pv 2 rfl (Or.inl lk__law_line__law_q)) pa_nil)))) (pss_one (ps_ret (pe_tup (pa_cons (pv 6 rfl (Or.inl lk__law_line__law_share)) (pa_cons (pe_c h_law_sub (hr.mono (by decide)) gk__law_line__law_sub (pa_cons (pv 3 rfl (Or.inl lk__law_line__law_a)) (pa_cons (pe_c h_law_mul (hr.mono (by decide)) gk__law_line__law_mul (pa_cons (pv 6 rfl (Or.inl lk__law_line__law_share)) (pa_cons (pv 1 rfl (Or.inl lk__law_line__law_p)) pa_nil))) pa_nil))) (pa_cons (pv 5 rfl (Or.inl lk__law_line__law_c)) pa_nil))))))) pss_nil) (pss_one (ps_ret (pe_tup (pa_cons (pe_c h_law_div (hr.mono (by decide)) gk__law_line__law_div (pa_cons (pv 3 rfl (Or.inl lk__law_line__law_a)) (pa_cons (pv 1 rfl (Or.inl lk__law_line__law_p)) pa_nil))) (pa_cons (pv 4 rfl (Or.inl lk__law_line__law_b)) (pa_cons (pv 5 rfl (Or.inl lk__law_line__law_c)) pa_nil)))))))), fun vs ds r G Q sG hv hR q => ?_⟩
    obtain ⟨x, dir, rfl, hx, rfl⟩ := hR
    obtain ⟨v1, v2, v3, rfl, h1, h2, h3⟩ := hv.three
    have fi : ∀ {i : Int} {σ : L2.St} {j : Nat} {G9 : Hp} {v : V}, σ[j]? = some (some v) → Is K G9 v (.int i) → EvD K (tTup (tCons (tVar j) (tCons (tC (.int 1)) tNil))) σ G9 (fr (i : Rat)) := fun hs h => evd_tup (es_cons (evd_var hs h) (es_cons evd_int es_nil))
    refine s_unpL (ds := [fr (x.1 : Rat), fr (x.2.1 : Rat), fr (x.2.2 : Rat)]) (evd_lcU (xs := [x.1, x.2.1, x.2.2]) PyData.int (fun i => fr (i : Rat)) (evd_var rfl h1) (by simp) (fun _ => rfl) fun a v G9 s9 _ hv9 => fi rfl hv9) sG rfl fun xs G1 H1 e1 hxs => ?_
    obtain ⟨a, b, c, rfl, ga, gb, gc⟩ := hxs.three
    refine ⟨a, _, rfl, b, _, rfl, c, _, rfl, rfl, ?_⟩
    change tSeq _ _ _ [some v1, some v2, some v3, some a, some b, some c, none, none] H1
    have ea : ∀ {σ : L2.St} {G9}, σ[3]? = some (some a) → Ex G1 G9 → EvD K (tVar 3) σ G9 (fr (x.1 : Rat)) := fun hs x => evd_var hs (ga.mono x)
    have eb : ∀ {σ : L2.St} {G9}, σ[4]? = some (some b) → Ex G1 G9 → EvD K (tVar 4) σ G9 (fr (x.2.1 : Rat)) := fun hs x => evd_var hs (gb.mono x)
    have ec : ∀ {σ : L2.St} {G9}, σ[5]? = some (some c) → Ex G1 G9 → EvD K (tVar 5) σ G9 (fr (x.2.2 : Rat)) := fun hs x => evd_var hs (gc.mono x)
    have ep : ∀ {σ : L2.St} {G9}, σ[1]? = some (some v2) → Ex G1 G9 → EvD K (tVar 1) σ G9 (fr (dirP dir)) := fun hs x => evd_var hs (h2.mono (e1.g.trans x))
    have eq : ∀ {σ : L2.St} {G9}, σ[2]? = some (some v3) → Ex G1 G9 → EvD K (tVar 2) σ G9 (fr (dirQ dir)) := fun hs x => evd_var hs (h3.mono (e1.g.trans x))
    have ba : B 222 1 (x.1 : Rat) := .int hx.1
    have bb : B 222 1 (x.2.1 : Rat) := .int hx.2.1
    have o1 : Sz 1 := (B.one (n := 1) (d := 1) (by decide) (by decide)).sz
    have z1 : Sz 0 := (B.zero (n := 1) (d := 1) (by decide)).sz
    have d1 : ∀ y : Rat, y / 1 = y := fun y => by grind
    refine qi (eb_val (evd_neI (ev_num (eq rfl (Ex.refl _))) evd_int)) e1.sub fun G2 H2 e2 => ?_
    cases dir with
    | false =>
      refine ite_no rfl ?_
      dsimp only [tNext]
      refine sr (evd_tup (es_cons (ev_div (ea rfl e2.g) (ep rfl e2.g) (by decide) ba.sz o1) (es_cons (eb rfl e2.g) (es_cons (ec rfl e2.g) es_nil)))) e2.sub fun v G9 H9 e9 h9 => ?_
      rw [show ((x.1 : Rat)) / dirP false = (x.1 : Rat) from d1 _] at h9
      exact q v G9 H9 ((e1.trans e2).trans e9) h9
    | true =>
      refine ite_yes rfl ?_
      refine qa (ev_div (eb rfl e2.g) (eq rfl e2.g) (by decide) bb.sz o1) e2.sub fun v6 G3 H3 e3 g3 => ?_
      rw [show ((x.2.1 : Rat)) / dirQ true = (x.2.1 : Rat) from d1 _] at g3
      have x3 := (e2.trans e3).g
      have b0 : B 223 2 ((x.2.1 : Rat) * dirP true) := bb.mul (B.zero (n := 1) (d := 1) (by decide))
      refine sr (evd_tup (es_cons (evd_var rfl g3) (es_cons (ev_sub (ea rfl x3) (ev_mul (evd_var rfl g3) (ep rfl x3) bb.sz z1) ba.sz b0.sz) (es_cons (ec rfl x3) es_nil)))) e3.sub fun v G9 H9 e9 h9 => ?_
      rw [show (x.1 : Rat) - (x.2.1 : Rat) * dirP true = (x.1 : Rat) by show (x.1 : Rat) - (x.2.1 : Rat) * 0 = _; grind] at h9
      exact q v G9 H9 (((e1.trans e2).trans e3).trans e9) h9
abbrev s_law_near : Stmt := top 62
theorem sc_law_near : FnScope ["_law_bounds_here"] ["_law_bounds_here"] (defScope s_law_near) := ⟨rfl, rfl, rfl, by decide +kernel, rfl, by decide +kernel, by decide +kernel⟩
theorem lk__law_near__law_bounds_here : (defScope s_law_near).names.lookup ("_law_bounds_here" : Str) = some .local := by decide +kernel
theorem has__law_near (F : Fun K "_law_near" "_law_near" s_law_near f fd) (m : mg "_law_near" = some (.ref f)) : Has P w K mg base "_law_near" 1 ["_law_bounds_here"] (spR K RNear) :=
  has_pure F m (F.binds fun _ _ _ _ _ _ us hl => match us, hl with | [_], _ => rfl) sc_law_near (fun ds r ⟨_, e, _⟩ => by rw [e]; rfl) fun cdv A outer s H E hr => by
    refine ⟨_, (pss_cons (ps_if (PW.pt (pw_and (pt_cmpR op_notNo (pe_ix (ix_seqK (K := K) rfl) (pv 0 rfl (Or.inl lk__law_near__law_bounds_here)) pe_int (fun _ _ => rfl)) pe_non (nomark _)) (pw_and1 (pt_cmpR op_gtI (pe_ix (ix_seqK (K := K) rfl) (pe_ix (ix_seqK (K := K) rfl) (pv 0 rfl (Or.inl lk__law_near__law_bounds_here)) pe_int (fun _ _ => rfl)) pe_int (fun _ _ => rfl)) pe_int (nomark _))))) (pss_one (ps_ret (pe_ix (ix_seqK (K := K) rfl) (pv 0 rfl (Or.inl lk__law_near__law_bounds_here)) pe_int (fun _ _ => rfl)))) pss_nil) (pss_cons (ps_if (PW.pt (pw_and (pt_cmpR op_notNo (pe_ix (ix_seqK (K := K) rfl) (pv 0 rfl (Or.inl lk__law_near__law_bounds_here)) pe_int (fun _ _ => rfl)) pe_non (nomark _)) (pw_and1 (pt_cmpR op_ltI (pe_ix (ix_seqK (K := K) rfl) (pe_ix (ix_seqK (K := K) rfl) (pv 0 rfl (Or.inl lk__law_near__law_bounds_here)) pe_int (fun _ _ => rfl)) pe_int (fun _ _ => rfl)) pe_int (nomark _))))) (pss_one (ps_ret (pe_ix (ix_seqK (K := K) rfl) (pv 0 rfl (Or.inl lk__law_near__law_bounds_here)) pe_int (fun _ _ => rfl)))) pss_nil) (pss_one (ps_ret (pe_tup (pa_cons pe_int (pa_cons pe_int pa_nil))))))), fun vs ds r G Q sG hv hR q => ?_⟩
    obtain ⟨⟨l, u⟩, rfl, rfl⟩ := hR
    obtain ⟨v1, rfl, h1⟩ := hv.one
    have e0 : ∀ {G9}, Ex G G9 → EvD K (tOp (rIx K) (tVar 0) (tC (.int 0))) (start ["_law_bounds_here"] [v1]) G9 (ofr l) := fun x => evd_ixT (ds := [ofr l, ofr u]) (evd_var rfl (h1.mono x)) evd_int rfl
    have e1' : ∀ {G9}, Ex G G9 → EvD K (tOp (rIx K) (tVar 0) (tC (.int 1))) (start ["_law_bounds_here"] [v1]) G9 (ofr u) := fun x => evd_ixT (ds := [ofr l, ofr u]) (evd_var rfl (h1.mono x)) evd_int rfl
    have t1 : EvB (tAnd (tTest (tOp rNotNo (tOp (rIx K) (tVar 0) (tC (.int 0))) (tC .non))) (tTest (tOp rGtI (tOp (rIx K) (tOp (rIx K) (tVar 0) (tC (.int 0))) (tC (.int 0))) (tC (.int 0))))) (start ["_law_bounds_here"] [v1]) G (match l with | none => false | some l => decide (0 < l)) := by
      cases l with
      | none => exact eb_and (a := false) (eb_val (evd_notN (e0 (Ex.refl _)))) (fun h => by cases h) (b := false)
      | some l => exact (eb_and (a := true) (eb_val (evd_notN (e0 (Ex.refl _)))) fun _ => eb_val (evd_gt (ev_num (e0 (Ex.refl _))) evd_int)).to (decide_eq_decide.mpr num_pos)
    refine qi t1 sG fun G1 H1 e1 => ?_
    have t2 : EvB (tAnd (tTest (tOp rNotNo (tOp (rIx K) (tVar 0) (tC (.int 1))) (tC .non))) (tTest (tOp rLtI (tOp (rIx K) (tOp (rIx K) (tVar 0) (tC (.int 1))) (tC (.int 0))) (tC (.int 0))))) (start ["_law_bounds_here"] [v1]) G1 (match u with | none => false | some u => decide (u < 0)) := by
      cases u with
      | none => exact eb_and (a := false) (eb_val (evd_notN (e1' e1.g))) (fun h => by cases h) (b := false)
      | some u => exact (eb_and (a := true) (eb_val (evd_notN (e1' e1.g))) fun _ => eb_val (evd_lt (ev_num (e1' e1.g)) evd_int)).to (decide_eq_decide.mpr num_neg)
    refine ite_by (fun hb => ?_) fun hb => ?_
    · cases l with
      | none => cases hb
      | some l =>
        have hb' : 0 < l := of_decide_eq_true hb
        have : nearOf (some l, u) = l := by unfold nearOf; exact if_pos hb'
        rw [this] at q
        exact sr (e0 e1.g) e1.sub fun v G9 H9 e9 h9 => q v G9 H9 (e1.trans e9) h9
    · dsimp only [tNext]
      have hn : nearOf (l, u) = match u with | none => 0 | some u => if u < 0 then u else 0 := by
        cases l with
        | none => cases u <;> rfl
        | some l =>
          have hb' : ¬ 0 < l := of_decide_eq_false hb
          unfold nearOf
          cases u with
          | none => exact if_neg hb'
          | some u => exact if_neg hb'
      rw [hn] at q
      refine qi t2 e1.sub fun G2 H2 e2 => ite_by (fun hc => ?_) fun hc => ?_
      · cases u with
        | none => cases hc
        | some u =>
          have hc' : u < 0 := of_decide_eq_true hc
          simp only [if_pos hc'] at q
          exact sr (e1' (e1.trans e2).g) e2.sub fun v G9 H9 e9 h9 => q v G9 H9 ((e1.trans e2).trans e9) h9
      · dsimp only [tNext]
        have fz : EvD K (tTup (tCons (tC (.int 0)) (tCons (tC (.int 1)) tNil))) (start ["_law_bounds_here"] [v1]) G2 (fr 0) := evd_tup (es_cons evd_int (es_cons evd_int es_nil))
        cases u with
        | none => exact sr fz e2.sub fun v G9 H9 e9 h9 => q v G9 H9 ((e1.trans e2).trans e9) h9
        | some u =>
          have hc' : ¬ u < 0 := of_decide_eq_false hc
          simp only [if_neg hc'] at q
          exact sr fz e2.sub fun v G9 H9 e9 h9 => q v G9 H9 ((e1.trans e2).trans e9) h9
end
end Rt
namespace Rt
open PySem PySem.Spec PyProof.Rows L2 Evl
theorem rowsTo_len {ls : List Ln} (h : ls.length ≤ 20) : (rowsOf ls).length ≤ 500 := by
  have h1 : (zeros ls).length ≤ 20 := flen _ h
  have h2 : (ups ls).length ≤ 20 := flen _ h
  have h3 : (downs ls).length ≤ 20 := flen _ h
  unfold rowsOf
  rw [List.length_append, List.length_flatMap]
  have : ∀ xs : List Ln, (xs.map fun x => ((downs ls).map fun y => comb x y).length).sum ≤ xs.length * 20 := by
    intro xs
    induction xs with
    | nil => simp
    | cons x xs ih =>
      rw [List.map_cons, List.sum_cons, List.length_cons, List.length_map]
      rw [Nat.add_mul]
      omega
  have := this (ups ls)
  have h4 : (ups ls).length * 20 ≤ 20 * 20 := Nat.mul_le_mul_right 20 h2
  omega
theorem map_mem {α : Type} {d : α → PyData} {xs : List α} {i : Nat} {y : PyData} (h : (xs.map d)[i]? = some y) : ∃ x, xs[i]? = some x ∧ y = d x := by
  rw [List.getElem?_map] at h
  cases e : xs[i]? with
  | none => (rw [e] at h; cases h)
  | some x => rw [e] at h; exact ⟨x, rfl, (Option.some.inj h).symm⟩
section
variable {w : World} {P : Program} {K : PySem.W.Frag} {mg : Str → Option Value} {base : Heap} {f : Addr} {fd : FuncData}
abbrev s_law_bounds : Stmt := top 60
theorem sc_law_bounds : FnScope ["_law_planes_here", "_law_p", "_law_q", "_law_lines", "_law_rows", "_law_one", "_law_other", "_law_share", "_law_top", "_law_lower", "_law_upper", "_law_row_here", "_law_least_here", "_law_most", "_law_plane_here", "_law_line_here"] ["_law_planes_here", "_law_p", "_law_q"] (defScope s_law_bounds) := ⟨rfl, rfl, rfl, by decide +kernel, rfl, by decide +kernel, by decide +kernel⟩
theorem lk__law_bounds__law_planes_here : (defScope s_law_bounds).names.lookup ("_law_planes_here" : Str) = some .local := by decide +kernel
theorem lk__law_bounds__law_p : (defScope s_law_bounds).names.lookup ("_law_p" : Str) = some .cell := by decide +kernel
theorem lk__law_bounds__law_q : (defScope s_law_bounds).names.lookup ("_law_q" : Str) = some .cell := by decide +kernel
theorem lk__law_bounds__law_lines : (defScope s_law_bounds).names.lookup ("_law_lines" : Str) = some .local := by decide +kernel
theorem lk__law_bounds__law_rows : (defScope s_law_bounds).names.lookup ("_law_rows" : Str) = some .local := by decide +kernel
theorem lk__law_bounds__law_one : (defScope s_law_bounds).names.lookup ("_law_one" : Str) = some .local := by decide +kernel
theorem lk__law_bounds__law_other : (defScope s_law_bounds).names.lookup ("_law_other" : Str) = some .local := by decide +kernel
theorem lk__law_bounds__law_share : (defScope s_law_bounds).names.lookup ("_law_share" : Str) = some .local := by decide +kernel
theorem lk__law_bounds__law_top : (defScope s_law_bounds).names.lookup ("_law_top" : Str) = some .local := by decide +kernel
theorem lk__law_bounds__law_lower : (defScope s_law_bounds).names.lookup ("_law_lower" : Str) = some .local := by decide +kernel
theorem lk__law_bounds__law_upper : (defScope s_law_bounds).names.lookup ("_law_upper" : Str) = some .local := by decide +kernel
theorem lk__law_bounds__law_row_here : (defScope s_law_bounds).names.lookup ("_law_row_here" : Str) = some .local := by decide +kernel
theorem lk__law_bounds__law_least_here : (defScope s_law_bounds).names.lookup ("_law_least_here" : Str) = some .local := by decide +kernel
theorem lk__law_bounds__law_most : (defScope s_law_bounds).names.lookup ("_law_most" : Str) = some .local := by decide +kernel
theorem gk__law_bounds__law_less : (defScope s_law_bounds).names.lookup ("_law_less" : Str) = some .globalImplicit := by decide +kernel
theorem gk__law_bounds__law_least : (defScope s_law_bounds).names.lookup ("_law_least" : Str) = some .globalImplicit := by decide +kernel
theorem gk__law_bounds__law_greatest : (defScope s_law_bounds).names.lookup ("_law_greatest" : Str) = some .globalImplicit := by decide +kernel
theorem gk__law_bounds__law_div : (defScope s_law_bounds).names.lookup ("_law_div" : Str) = some .globalImplicit := by decide +kernel
theorem gk__law_bounds__law_add : (defScope s_law_bounds).names.lookup ("_law_add" : Str) = some .globalImplicit := by decide +kernel
theorem gk__law_bounds__law_mul : (defScope s_law_bounds).names.lookup ("_law_mul" : Str) = some .globalImplicit := by decide +kernel
theorem gk__law_bounds__law_neg : (defScope s_law_bounds).names.lookup ("_law_neg" : Str) = some .globalImplicit := by decide +kernel
theorem has__law_bounds (F : Fun K "_law_bounds" "_law_bounds" s_law_bounds f fd) (m : mg "_law_bounds" = some (.ref f)) (h_law_line : Has P w K mg base "_law_line" 4 ["_law_plane_here", "_law_p", "_law_q"] (spR K RLine)) (h_law_neg : Has P w K mg base "_law_neg" 1 ["_law_one"] (spR K RNeg)) (h_law_div : Has P w K mg base "_law_div" 2 ["_law_one", "_law_other"] (spR K RDiv)) (h_law_add : Has P w K mg base "_law_add" 2 ["_law_one", "_law_other"] (spR K RAdd)) (h_law_mul : Has P w K mg base "_law_mul" 2 ["_law_one", "_law_other"] (spR K RMul)) (h_law_greatest : Has P w K mg base "_law_greatest" 2 ["_law_values"] (spR K RGreatest)) (h_law_least : Has P w K mg base "_law_least" 2 ["_law_values"] (spR K RLeast)) (h_law_less : Has P w K mg base "_law_less" 1 ["_law_one", "_law_other"] (spR K RLess)) : Has P w K mg base "_law_bounds" 5 ["_law_planes_here", "_law_p", "_law_q"] (spR K RBounds) :=
  has_pure F m (F.binds fun _ _ _ _ _ _ us hl => match us, hl with | [_, _, _], _ => rfl) sc_law_bounds (fun ds r ⟨_, _, e, _⟩ => by rw [e]; rfl) fun cdv A outer s H E hr => by
    refine ⟨_, (pss_cons (ps_setLc (i := 3) (own := [("_law_plane_here", 14)]) (g := (gName 14)) (tt := tYes) (by rfl) sc_law_bounds.nd rfl rfl (sw_true rfl rfl rfl (by decide +kernel)) (pi_listK (K := K) rfl (pv 0 rfl (Or.inl lk__law_bounds__law_planes_here))) (blkOk_by (own := [("_law_plane_here", 14)]) (N := ["_law_planes_here", "_law_p", "_law_q", "_law_lines", "_law_rows", "_law_one", "_law_other", "_law_share", "_law_top", "_law_lower", "_law_upper", "_law_row_here", "_law_least_here", "_law_most", "_law_plane_here", "_law_line_here"]) (sc := defScope s_law_bounds) (by decide +kernel)) (fun _ _ _ _ _ => (pg_name (i := 14) sc_law_bounds.nd rfl (Or.inl rfl))) (fun _ _ _ _ _ => pts_nil) (fun _ _ _ _ _ => (pe_c h_law_line (hr.mono (by decide)) (by rfl) (pa_cons (pv 14) (pa_cons (pv 1) (pa_cons (pv 2) pa_nil)))))) (pss_cons (ps_setLc (i := 4) (own := [("_law_line_here", 15)]) (g := (gName 15)) (by rfl) sc_law_bounds.nd rfl rfl (sw_true rfl rfl rfl (by decide +kernel)) (pi_listK (K := K) rfl (pv 3 rfl (Or.inl lk__law_bounds__law_lines))) (blkOk_by (own := [("_law_line_here", 15)]) (N := ["_law_planes_here", "_law_p", "_law_q", "_law_lines", "_law_rows", "_law_one", "_law_other", "_law_share", "_law_top", "_law_lower", "_law_upper", "_law_row_here", "_law_least_here", "_law_most", "_law_plane_here", "_law_line_here"]) (sc := defScope s_law_bounds) (by decide +kernel)) (fun _ _ _ _ _ => (pg_name (i := 15) sc_law_bounds.nd rfl (Or.inl rfl))) (fun _ _ _ _ _ => (pts_one (pt_cmpR (op_eqK (K := K) rfl hr.units) (pe_ix (ix_seqK (K := K) rfl) (pe_ix (ix_seqK (K := K) rfl) (pv 15) pe_int (fun _ _ => rfl)) pe_int (fun _ _ => rfl)) pe_int (nomark _)))) (fun _ _ _ _ _ => (pv 15))) (pss_cons (ps_for PassesOwn.never rfl (pi_listK (K := K) rfl (pe_lc (own := [("_law_line_here", 15)]) (g := (gName 15)) (by rfl) sc_law_bounds.nd (pi_listK (K := K) rfl (pv 3 rfl (Or.inl lk__law_bounds__law_lines))) (blkOk_by (own := [("_law_line_here", 15)]) (N := ["_law_planes_here", "_law_p", "_law_q", "_law_lines", "_law_rows", "_law_one", "_law_other", "_law_share", "_law_top", "_law_lower", "_law_upper", "_law_row_here", "_law_least_here", "_law_most", "_law_plane_here", "_law_line_here"]) (sc := defScope s_law_bounds) (by decide +kernel)) (fun _ _ _ _ _ => (pg_name (i := 15) sc_law_bounds.nd rfl (Or.inl rfl))) (fun _ _ _ _ _ => (pts_one (pt_cmpR op_gtI (pe_ix (ix_seqK (K := K) rfl) (pe_ix (ix_seqK (K := K) rfl) (pv 15) pe_int (fun _ _ => rfl)) pe_int (fun _ _ => rfl)) pe_int (nomark _)))) (fun _ _ _ _ _ => (pv 15)))) (pg_name (i := 5) sc_law_bounds.nd rfl (Or.inl lk__law_bounds__law_one)) (pss_one (ps_for PassesOwn.never rfl (pi_listK (K := K) rfl (pe_lc (own := [("_law_line_here", 15)]) (g := (gName 15)) (by rfl) sc_law_bounds.nd (pi_listK (K := K) rfl (pv 3 rfl (Or.inl lk__law_bounds__law_lines))) (blkOk_by (own := [("_law_line_here", 15)]) (N := ["_law_planes_here", "_law_p", "_law_q", "_law_lines", "_law_rows", "_law_one", "_law_other", "_law_share", "_law_top", "_law_lower", "_law_upper", "_law_row_here", "_law_least_here", "_law_most", "_law_plane_here", "_law_line_here"]) (sc := defScope s_law_bounds) (by decide +kernel)) (fun _ _ _ _ _ => (pg_name (i := 15) sc_law_bounds.nd rfl (Or.inl rfl))) (fun _ _ _ _ _ => (pts_one (pt_cmpR op_ltI (pe_ix (ix_seqK (K := K) rfl) (pe_ix (ix_seqK (K := K) rfl) (pv 15) pe_int (fun _ _ => rfl)) pe_int (fun _ _ => rfl)) pe_int (nomark _)))) (fun _ _ _ _ _ => (pv 15)))) (pg_name (i := 6) sc_law_bounds.nd rfl (Or.inl lk__law_bounds__law_other)) (pss_cons (ps_set (i := 7) sc_law_bounds.nd rfl (Or.inl lk__law_bounds__law_share) (pe_c h_law_neg (hr.mono (by decide)) gk__law_bounds__law_neg (pa_cons (pe_c h_law_div (hr.mono (by decide)) gk__law_bounds__law_div (pa_cons (pe_ix (ix_seqK (K := K) rfl) (pv 5 rfl (Or.inl lk__law_bounds__law_one)) pe_int (fun _ _ => rfl)) (pa_cons (pe_ix (ix_seqK (K := K) rfl) (pv 6 rfl (Or.inl lk__law_bounds__law_other)) pe_int (fun _ _ => rfl)) pa_nil))) pa_nil))) (pss_cons (ps_set (i := 8) sc_law_bounds.nd rfl (Or.inl lk__law_bounds__law_top) (pe_c h_law_add (hr.mono (by decide)) gk__law_bounds__law_add (pa_cons (pe_ix (ix_seqK (K := K) rfl) (pv 5 rfl (Or.inl lk__law_bounds__law_one)) pe_int (fun _ _ => rfl)) (pa_cons (pe_c h_law_mul (hr.mono (by decide)) gk__law_bounds__law_mul (pa_cons (pv 7 rfl (Or.inl lk__law_bounds__law_share)) (pa_cons (pe_ix (ix_seqK (K := K) rfl) (pv 6 rfl (Or.inl lk__law_bounds__law_other)) pe_int (fun _ _ => rfl)) pa_nil))) pa_nil)))) (pss_one (ps_expr (pe_appK (K := K) rfl (pv 4 rfl (Or.inl lk__law_bounds__law_rows)) (pe_tup (pa_cons (pv 8 rfl (Or.inl lk__law_bounds__law_top)) (pa_cons (pe_tup (pa_cons pe_int (pa_cons pe_int pa_nil))) (pa_cons (pe_c h_law_add (hr.mono (by decide)) gk__law_bounds__law_add (pa_cons (pe_ix (ix_seqK (K := K) rfl) (pv 5 rfl (Or.inl lk__law_bounds__law_one)) pe_int (fun _ _ => rfl)) (pa_cons (pe_c h_law_mul (hr.mono (by decide)) gk__law_bounds__law_mul (pa_cons (pv 7 rfl (Or.inl lk__law_bounds__law_share)) (pa_cons (pe_ix (ix_seqK (K := K) rfl) (pv 6 rfl (Or.inl lk__law_bounds__law_other)) pe_int (fun _ _ => rfl)) pa_nil))) pa_nil))) pa_nil)))))))))))) (pss_cons (ps_set (i := 9) sc_law_bounds.nd rfl (Or.inl lk__law_bounds__law_lower) (pe_lst pa_nil)) (pss_cons (ps_set (i := 10) sc_law_bounds.nd rfl (Or.inl lk__law_bounds__law_upper) (pe_lst pa_nil)) (pss_cons (ps_for PassesOwn.never rfl (pi_listK (K := K) rfl (pv 4 rfl (Or.inl lk__law_bounds__law_rows))) (pg_name (i := 11) sc_law_bounds.nd rfl (Or.inl lk__law_bounds__law_row_here)) (pss_cons (ps_if (PW.pt (pw_and (pt_cmpR (op_eqK (K := K) rfl hr.units) (pe_ix (ix_seqK (K := K) rfl) (pe_ix (ix_seqK (K := K) rfl) (pv 11 rfl (Or.inl lk__law_bounds__law_row_here)) pe_int (fun _ _ => rfl)) pe_int (fun _ _ => rfl)) pe_int (nomark _)) (pw_and1 (pt_cmpR op_ltI (pe_ix (ix_seqK (K := K) rfl) (pe_ix (ix_seqK (K := K) rfl) (pv 11 rfl (Or.inl lk__law_bounds__law_row_here)) pe_int (fun _ _ => rfl)) pe_int (fun _ _ => rfl)) pe_int (nomark _))))) (pss_one (ps_ret (pe_tup pa_nil))) pss_nil) (pss_cons (ps_if (pt_cmpR op_gtI (pe_ix (ix_seqK (K := K) rfl) (pe_ix (ix_seqK (K := K) rfl) (pv 11 rfl (Or.inl lk__law_bounds__law_row_here)) pe_int (fun _ _ => rfl)) pe_int (fun _ _ => rfl)) pe_int (nomark _)) (pss_one (ps_expr (pe_appK (K := K) rfl (pv 10 rfl (Or.inl lk__law_bounds__law_upper)) (pe_c h_law_div (hr.mono (by decide)) gk__law_bounds__law_div (pa_cons (pe_ix (ix_seqK (K := K) rfl) (pv 11 rfl (Or.inl lk__law_bounds__law_row_here)) pe_int (fun _ _ => rfl)) (pa_cons (pe_ix (ix_seqK (K := K) rfl) (pv 11 rfl (Or.inl lk__law_bounds__law_row_here)) pe_int (fun _ _ => rfl)) pa_nil)))))) pss_nil) (pss_one (ps_if (pt_cmpR op_ltI (pe_ix (ix_seqK (K := K) rfl) (pe_ix (ix_seqK (K := K) rfl) (pv 11 rfl (Or.inl lk__law_bounds__law_row_here)) pe_int (fun _ _ => rfl)) pe_int (fun _ _ => rfl)) pe_int (nomark _)) (pss_one (ps_expr (pe_appK (K := K) rfl (pv 9 rfl (Or.inl lk__law_bounds__law_lower)) (pe_c h_law_div (hr.mono (by decide)) gk__law_bounds__law_div (pa_cons (pe_ix (ix_seqK (K := K) rfl) (pv 11 rfl (Or.inl lk__law_bounds__law_row_here)) pe_int (fun _ _ => rfl)) (pa_cons (pe_ix (ix_seqK (K := K) rfl) (pv 11 rfl (Or.inl lk__law_bounds__law_row_here)) pe_int (fun _ _ => rfl)) pa_nil)))))) pss_nil))))) (pss_cons (ps_set (i := 12) sc_law_bounds.nd rfl (Or.inl lk__law_bounds__law_least_here) (pe_c h_law_greatest (hr.mono (by decide)) gk__law_bounds__law_greatest (pa_cons (pv 9 rfl (Or.inl lk__law_bounds__law_lower)) pa_nil))) (pss_cons (ps_set (i := 13) sc_law_bounds.nd rfl (Or.inl lk__law_bounds__law_most) (pe_c h_law_least (hr.mono (by decide)) gk__law_bounds__law_least (pa_cons (pv 10 rfl (Or.inl lk__law_bounds__law_upper)) pa_nil))) (pss_cons (ps_if (PW.pt (pw_and (pt_cmpR op_notNo (pv 12 rfl (Or.inl lk__law_bounds__law_least_here)) pe_non (nomark _)) (pw_and (pt_cmpR op_notNo (pv 13 rfl (Or.inl lk__law_bounds__law_most)) pe_non (nomark _)) (pw_and1 (pt_val (pe_c h_law_less (hr.mono (by decide)) gk__law_bounds__law_less (pa_cons (pv 13 rfl (Or.inl lk__law_bounds__law_most)) (pa_cons (pv 12 rfl (Or.inl lk__law_bounds__law_least_here)) pa_nil)))))))) (pss_one (ps_ret (pe_tup pa_nil))) pss_nil) (pss_one (ps_ret (pe_tup (pa_cons (pv 12 rfl (Or.inl lk__law_bounds__law_least_here)) (pa_cons (pv 13 rfl (Or.inl lk__law_bounds__law_most)) pa_nil)))))))))))))), fun vs ds r G Q sG hv hR q => ?_⟩
    obtain ⟨ps, dir, rfl, hlen, hps, rfl⟩ := hR
    obtain ⟨v1, v2, v3, rfl, h1, h2, h3⟩ := hv.three
    -- lines
    refine qa (evd_lcR (xs := ps) pld (fun x => lnd (lineOf dir x)) (evd_var rfl h1) (by omega) (fun _ => rfl) fun a v G9 s9 ha hv9 => evd_call (es_cons (evd_var rfl hv9) (es_cons (evd_var rfl (h2.mono s9)) (es_cons (evd_var rfl (h3.mono s9)) es_nil))) (R := RLine) ⟨a, dir, rfl, hps a ha, rfl⟩) sG fun vl G1 H1 e1 g1 => ?_
    have hB : ∀ l ∈ ps.map (lineOf dir), LnB l := by
      intro l hl
      obtain ⟨x, hx, rfl⟩ := of_map hl
      exact lineB (hps x hx) dir
    have hL : (ps.map (lineOf dir)).length ≤ 20 := by rw [List.length_map]; exact hlen
    have g1' : Is K G1 vl (.list ((ps.map (lineOf dir)).map lnd)) := by rw [List.map_map]; exact g1
    clear g1 hps hlen
    generalize ps.map (lineOf dir) = ls at *
    change tSeq _ _ _ [some v1, some v2, some v3, some vl, none, none, none, none, none, none, none, none, none, none, none, none] H1
    have evl : ∀ {σ : L2.St} {G9}, σ[3]? = some (some vl) → Ex G1 G9 → EvD K (tVar 3) σ G9 (.list (ls.map lnd)) := fun hs x => evd_var hs (g1'.mono x)
    -- rows
    refine q_lcf lnd (fun l => decide (l.2.1.num = 0)) (evl rfl (Ex.refl _)) (by omega) (fun _ => rfl) (fun _ => rfl) (fun a v G9 s9 _ hv9 => eb_val (evd_eqI (ev_num (evd_ixT (i := 1) (d := fr a.2.1) (ds := [fr a.1, fr a.2.1, fr a.2.2]) (evd_var rfl hv9) evd_int rfl)) evd_int)) e1.sub fun D acc G2 H2 e2 hD gD hacc hal hall => ?_
    have x2 := e1.trans e2
    have h0D : H D = none := fresh_back e1.h hD
    change tSeq _ _ _ [some v1, some v2, some v3, some vl, some (.ref D), none, none, none, none, none, none, none, none, none, none, none] H2
    have us : ∀ {σ : L2.St} {G9}, σ[3]? = some (some vl) → (∀ x : V, ((wipe σ [15]).set 15 (some x))[15]? = some (some x)) → (∀ x, wipe ((wipe σ [15]).set 15 (some x)) [15] = wipe σ [15]) → Ex G1 G9 →
        EvD K (tLc (iList K (tVar 3)) (gName 15) (tTest (tOp rGtI (tOp (rIx K) (tOp (rIx K) (tVar 15) (tC (.int 1))) (tC (.int 0))) (tC (.int 0)))) (tVar 15) [15]) σ G9 (.list ((ups ls).map lnd)) := fun hs hj hw x =>
      evd_filter lnd (fun l => decide (l.2.1.num > 0)) (evl hs x) (by omega) hj hw fun a v G9 s9 _ hv9 => eb_val (evd_gt (ev_num (evd_ixT (i := 1) (d := fr a.2.1) (ds := [fr a.1, fr a.2.1, fr a.2.2]) (evd_var (hj v) hv9) evd_int rfl)) evd_int)
    have dsn : ∀ {σ : L2.St} {G9}, σ[3]? = some (some vl) → (∀ x : V, ((wipe σ [15]).set 15 (some x))[15]? = some (some x)) → (∀ x, wipe ((wipe σ [15]).set 15 (some x)) [15] = wipe σ [15]) → Ex G1 G9 →
        EvD K (tLc (iList K (tVar 3)) (gName 15) (tTest (tOp rLtI (tOp (rIx K) (tOp (rIx K) (tVar 15) (tC (.int 1))) (tC (.int 0))) (tC (.int 0)))) (tVar 15) [15]) σ G9 (.list ((downs ls).map lnd)) := fun hs hj hw x =>
      evd_filter lnd (fun l => decide (l.2.1.num < 0)) (evl hs x) (by omega) hj hw fun a v G9 s9 _ hv9 => eb_val (evd_lt (ev_num (evd_ixT (i := 1) (d := fr a.2.1) (ds := [fr a.1, fr a.2.1, fr a.2.2]) (evd_var (hj v) hv9) evd_int rfl)) evd_int)
    have huB : ∀ l ∈ ups ls, LnB l := fun l hl => hB l (List.mem_filter.mp hl).1
    have hdB : ∀ l ∈ downs ls, LnB l ∧ l.2.1 ≠ 0 := fun l hl => ⟨hB l (List.mem_filter.mp hl).1, Rat.ne_of_lt (num_neg.mp (of_decide_eq_true (List.mem_filter.mp hl).2))⟩
    have ulen : (ups ls).length ≤ 20 := flen _ hL
    have dlen : (downs ls).length ≤ 20 := flen _ hL
    have zlen : (zeros ls).length ≤ 20 := flen _ hL
    -- the pairs
    refine q_for (us rfl (fun _ => rfl) (fun _ => rfl) e2.g) e2.sub fun G3 H3 e3 => ⟨fun i σ' G' H' => Ext G H G' H' ∧ Ex G3 G' ∧ G' D = none ∧ ∃ acc a b c d, σ' = [some v1, some v2, some v3, some vl, some (.ref D), a, b, c, d, none, none, none, none, none, none, none] ∧ H' D = some (.lst acc) ∧ acc.length ≤ 20 + i * 20 ∧
        IsAll K G' acc ((zeros ls ++ ((ups ls).take i).flatMap fun x => (downs ls).map fun y => comb x y).map lnd), fun i σ' G' H' p => ⟨p.2.1, p.1.sub⟩,
      ⟨x2.trans e3, Ex.refl _, e3.unseen gD hacc, acc, none, none, none, none, rfl, e3.h _ _ hacc, by omega, ?_⟩, ?_, ?_⟩
    · show IsAll K G3 acc ((zeros ls ++ []).map lnd)
      rw [List.append_nil]
      exact hall.mono e3.g
    · rintro i d u σ' G' H' hd hu ⟨e, s3, gD', acc', a0, b0, c0, d0, rfl, hacc', hl', hall'⟩
      obtain ⟨x, hx, rfl⟩ := map_mem hd
      have hxm := List.mem_of_getElem? hx
      have hi20 : i < (ups ls).length := (List.getElem?_eq_some_iff.mp hx).1
      have bx := huB x hxm
      change tFor _ _ _ _ [some v1, some v2, some v3, some vl, some (.ref D), some u, b0, c0, d0, none, none, none, none, none, none, none] H'
      have x13 : Ex G1 G' := ((e2.trans e3).g).trans s3
      refine s_for (dsn rfl (fun _ => rfl) (fun _ => rfl) x13) e.sub fun G5 H5 e5 => ⟨fun j σ' G' H' => Ext G H G' H' ∧ Ex G5 G' ∧ G' D = none ∧ ∃ acc b c d, σ' = [some v1, some v2, some v3, some vl, some (.ref D), some u, b, c, d, none, none, none, none, none, none, none] ∧ H' D = some (.lst acc) ∧ acc.length ≤ 20 + i * 20 + j ∧
          IsAll K G' acc ((zeros ls ++ ((ups ls).take i).flatMap (fun x => (downs ls).map fun y => comb x y) ++ (((downs ls).take j).map fun y => comb x y)).map lnd), fun i σ' G' H' p => ⟨p.2.1, p.1.sub⟩,
        ⟨e.trans e5, Ex.refl _, e5.unseen gD' hacc', acc', b0, c0, d0, rfl, e5.h _ _ hacc', by omega, ?_⟩, ?_, ?_⟩
      · show IsAll K G5 acc' ((zeros ls ++ ((ups ls).take i).flatMap (fun x => (downs ls).map fun y => comb x y) ++ []).map lnd)
        rw [List.append_nil]
        exact hall'.mono e5.g
      · rintro j dd y σ' G6 H6 hdd hy ⟨e6, s5, gD6, acc6, b6, c6, d6, rfl, hacc6, hl6, hall6⟩
        obtain ⟨z, hz, rfl⟩ := map_mem hdd
        have hj20 : j < (downs ls).length := (List.getElem?_eq_some_iff.mp hz).1
        obtain ⟨bz, nz⟩ := hdB z (List.mem_of_getElem? hz)
        change tSeq _ _ _ [some v1, some v2, some v3, some vl, some (.ref D), some u, some y, c6, d6, none, none, none, none, none, none, none] H6
        have sx : Ex G' G6 := e5.g.trans s5
        have ex : ∀ {σ : L2.St} {G9}, σ[5]? = some (some u) → Ex G6 G9 → EvD K (tVar 5) σ G9 (lnd x) := fun hs t => evd_var hs (hu.mono (sx.trans t))
        have ez : ∀ {σ : L2.St} {G9}, σ[6]? = some (some y) → Ex G6 G9 → EvD K (tVar 6) σ G9 (lnd z) := fun hs t => evd_var hs (hy.mono t)
        have bsh := shareB bx bz nz
        refine qa (ev_neg (ev_div (evd_ixT (ex rfl (Ex.refl _)) evd_int rfl) (evd_ixT (ez rfl (Ex.refl _)) evd_int rfl) nz bx.b.sz bz.b.sz)) e6.sub fun v7 G7 H7 e7 g7 => ?_
        change tSeq _ _ _ [some v1, some v2, some v3, some vl, some (.ref D), some u, some y, some v7, d6, none, none, none, none, none, none, none] H7
        refine qa (ev_add (evd_ixT (ex rfl e7.g) evd_int rfl) (ev_mul (x := shareOf x z) (evd_var rfl g7) (evd_ixT (ez rfl e7.g) evd_int rfl) bsh.sz bz.a.sz) bx.a.sz (bsh.mul bz.a).sz) e7.sub fun v8 G8 H8 e8 g8 => ?_
        change tDrop _ _ [some v1, some v2, some v3, some vl, some (.ref D), some u, some y, some v7, some v8, none, none, none, none, none, none, none] H8
        have l8 := e8.h _ _ (e7.h _ _ hacc6)
        have gD8 : G8 D = none := e8.unseen (e7.unseen gD6 hacc6) (e7.h _ _ hacc6)
        refine s_app (d := lnd (comb x z)) rfl l8 (by have : i * 20 ≤ 20 * 20 := Nat.mul_le_mul_right 20 (by omega); omega) (evd_tup (es_cons (evd_var rfl g8) (es_cons (evd_tup (es_cons evd_int (es_cons evd_int es_nil))) (es_cons (ev_add (evd_ixT (ex rfl (e7.trans e8).g) evd_int rfl) (ev_mul (x := shareOf x z) (evd_var rfl (g7.mono e8.g)) (evd_ixT (ez rfl (e7.trans e8).g) evd_int rfl) bsh.sz bz.c.sz) bx.c.sz (bsh.mul bz.c).sz) es_nil)))) e8.sub fun t9 G9 H9 e9 l9 h9 => ?_
        have x69 := (e7.trans e8).trans e9
        refine ⟨G9, ((e6.trans x69).mut h0D (e9.unseen gD8 l8)), s5.trans x69.g, e9.unseen gD8 l8, acc6 ++ [t9], _, _, _, rfl, upd_same, by rw [List.length_append, List.length_singleton]; omega, ?_⟩
        have hh := (hall6.mono x69.g).append (IsAll.cons h9 .nil)
        rw [take_snoc hz]
        simp only [List.map_append, List.map_cons, List.map_nil, List.append_assoc] at hh ⊢
        exact hh
      · rintro σ' G6 H6 ⟨e6, s5, gD6, acc6, b6, c6, d6, rfl, hacc6, hl6, hall6⟩
        rw [List.length_map] at hl6 hall6
        rw [List.take_length] at hall6
        refine ⟨G6, e6, (s3.trans e5.g).trans s5, gD6, acc6, some u, b6, c6, d6, rfl, hacc6, by rw [Nat.add_mul]; omega, ?_⟩
        rw [take_snoc hx, List.flatMap_append, ← List.append_assoc]
        show IsAll K G6 acc6 ((zeros ls ++ ((ups ls).take i).flatMap (fun x => (downs ls).map fun y => comb x y) ++ (((downs ls).map fun y => comb x y) ++ [])).map lnd)
        rw [List.append_nil]
        exact hall6
    · rintro σ' G4 H4 ⟨e, s3, gD4, acc4, a0, b0, c0, d0, rfl, hacc4, hl4, hall4⟩
      rw [List.length_map, List.take_length] at hall4
      change IsAll K G4 acc4 ((rowsOf ls).map lnd) at hall4
      have rlen := rowsTo_len hL
      have hR := rowsB hB
      generalize rowsOf ls = rs at *
      -- the rows are seen from here on
      have x4 := e.show h0D gD4 hacc4
      have gr : Is K (upd G4 D (.lst acc4)) (.ref D) (.list (rs.map lnd)) := .lst upd_same (hall4.mono (Ex.new gD4))
      generalize upd G4 D (.lst acc4) = G5 at *
      refine ⟨Nat.zero_le _, fun l9 hl9 => ?_⟩
      have n9 : H l9 = none := fresh_back x4.h hl9
      have x5 : Ext G H G5 (upd H4 l9 (.lst [])) := x4.mut n9 (fresh_back x4.sub hl9)
      refine ⟨Nat.zero_le _, fun l10 hl10 => ?_⟩
      have n10 : H l10 = none := fresh_back x5.h hl10
      have x6 := x5.mut (o := .lst []) n10 (fresh_back x5.sub hl10)
      have n910 : l9 ≠ l10 := ne_of_none upd_same hl10
      have k9 : upd (upd H4 l9 (.lst [])) l10 (.lst []) l9 = some (.lst []) := by rw [upd_ne n910]; exact upd_same
      change tSeq _ _ _ [some v1, some v2, some v3, some vl, some (.ref D), a0, b0, c0, d0, some (.ref l9), some (.ref l10), none, none, none, none, none] (upd (upd H4 l9 (.lst [])) l10 (.lst []))
      refine q_for (evd_var rfl gr) x6.sub fun G7 H7 e7 => ⟨fun i σ' G' H' => Ext G H G' H' ∧ Ex G7 G' ∧ G' l9 = none ∧ G' l10 = none ∧ (rs.take i).any bad = false ∧ ∃ a9 a10 u, σ' = [some v1, some v2, some v3, some vl, some (.ref D), a0, b0, c0, d0, some (.ref l9), some (.ref l10), u, none, none, none, none] ∧ H' l9 = some (.lst a9) ∧ a9.length ≤ i ∧ H' l10 = some (.lst a10) ∧ a10.length ≤ i ∧
          IsAll K G' a9 ((lowers (rs.take i)).map fr) ∧ IsAll K G' a10 ((uppers (rs.take i)).map fr), fun i σ' G' H' p => ⟨p.2.1, p.1.sub⟩,
        ⟨x6.trans e7, Ex.refl _, e7.unseen (fresh_back x4.sub hl9) k9, e7.unseen (fresh_back x5.sub hl10) upd_same, rfl, [], [], none, rfl, e7.h _ _ k9, Nat.le_refl _, e7.h _ _ upd_same, Nat.le_refl _, .nil, .nil⟩, ?_, ?_⟩
      · rintro i d u σ' G8 H8 hd hu ⟨e8, s7, g9, g10, hbad, a9, a10, u0, rfl, k9, z9, k10, z10, i9, i10⟩
        obtain ⟨x, hx, rfl⟩ := map_mem hd
        have bx := hR x (List.mem_of_getElem? hx)
        have hir : i < rs.length := (List.getElem?_eq_some_iff.mp hx).1
        change tSeq _ _ _ [some v1, some v2, some v3, some vl, some (.ref D), a0, b0, c0, d0, some (.ref l9), some (.ref l10), some u, none, none, none, none] H8
        have eu : ∀ {σ : L2.St} {G9}, σ[11]? = some (some u) → Ex G8 G9 → EvD K (tVar 11) σ G9 (lnd x) := fun hs t => evd_var hs (hu.mono t)
        have e0 : ∀ {σ : L2.St} {G9}, σ[11]? = some (some u) → Ex G8 G9 → EvD K (tOp (rIx K) (tOp (rIx K) (tVar 11) (tC (.int 0))) (tC (.int 0))) σ G9 (.int x.1.num) := fun hs t => ev_num (evd_ixT (eu hs t) evd_int rfl)
        refine qi ((eb_and (eb_val (evd_eqI (e0 rfl (Ex.refl _)) evd_int)) fun _ => eb_val (evd_lt (ev_num (evd_ixT (eu rfl (Ex.refl _)) evd_int rfl)) evd_int)).to (b' := bad x) rfl) e8.sub fun G9 H9 e9 => ite_by (fun hb => ?_) fun hb => ?_
        · have : boundsOf rs = none := by
            unfold boundsOf
            rw [if_pos (List.any_eq_true.mpr ⟨x, List.mem_of_getElem? hx, hb⟩)]
          rw [this] at q
          exact sr (evd_tup es_nil) e9.sub fun v Ga Ha ea ha => q v Ga Ha ((e8.trans e9).trans ea) ha
        · dsimp only [tNext]
          have g9' := e9.unseen g9 k9
          have g10' := e9.unseen g10 k10
          have hbad' : (rs.take (i + 1)).any bad = false := by rw [take_snoc hx, List.any_append, hbad, List.any_cons, hb]; rfl
          have up1 : uppers (rs.take (i + 1)) = uppers (rs.take i) ++ (if x.1.num > 0 then [x.2.2 / x.1] else []) := by
            rw [take_snoc hx]; unfold uppers
            rw [List.filter_append, List.map_append]
            by_cases h : x.1.num > 0
            · rw [if_pos h, List.filter_cons_of_pos (p := fun r : Ln => decide (r.1.num > 0)) (decide_eq_true h)]; rfl
            · rw [if_neg h, List.filter_cons_of_neg (p := fun r : Ln => decide (r.1.num > 0)) (by rw [decide_eq_false h]; exact Bool.false_ne_true)]; rfl
          have lo1 : lowers (rs.take (i + 1)) = lowers (rs.take i) ++ (if x.1.num < 0 then [x.2.2 / x.1] else []) := by
            rw [take_snoc hx]; unfold lowers
            rw [List.filter_append, List.map_append]
            by_cases h : x.1.num < 0
            · rw [if_pos h, List.filter_cons_of_pos (p := fun r : Ln => decide (r.1.num < 0)) (decide_eq_true h)]; rfl
            · rw [if_neg h, List.filter_cons_of_neg (p := fun r : Ln => decide (r.1.num < 0)) (by rw [decide_eq_false h]; exact Bool.false_ne_true)]; rfl
          have hz500 : i < 500 := by omega
          refine qi (eb_val (evd_gt (e0 rfl e9.g) evd_int)) e9.sub fun Ga Ha ea => ?_
          have k9a := ea.h _ _ (e9.h _ _ k9)
          have k10a := ea.h _ _ (e9.h _ _ k10)
          have g9a := ea.unseen g9' (e9.h _ _ k9)
          have g10a := ea.unseen g10' (e9.h _ _ k10)
          have xa := (e9.trans ea)
          by_cases hu0 : x.1.num > 0
          · refine ite_yes (decide_eq_true hu0) ?_
            have nx : x.1 ≠ 0 := Rat.ne_of_gt (num_pos.mp hu0)
            have nl : ¬ x.1.num < 0 := by omega
            rw [if_pos hu0] at up1
            rw [if_neg nl, List.append_nil] at lo1
            refine s_app (d := fr (x.2.2 / x.1)) rfl k10a (by omega) (ev_div (evd_ixT (eu rfl xa.g) evd_int rfl) (evd_ixT (eu rfl xa.g) evd_int rfl) nx bx.c.sz bx.a.sz) ea.sub fun t Gb Hb eb lb hb' => ?_
            have xb := xa.trans eb
            have k9b : (upd Hb l10 (.lst (a10 ++ [t]))) l9 = some (.lst a9) := by rw [upd_ne n910]; exact eb.h _ _ k9a
            have gb10 := eb.unseen g10a k10a
            have tb : Ext G H Gb (upd Hb l10 (.lst (a10 ++ [t]))) := (e8.trans xb).mut n10 gb10
            dsimp only
            refine si (eb_val (evd_lt (e0 rfl xb.g) evd_int)) tb.sub fun Gc Hc ec => ite_no (decide_eq_false nl) ?_
            have xc : Ex G8 Gc := xb.g.trans ec.g
            refine ⟨Gc, tb.trans ec, s7.trans xc, ec.unseen (eb.unseen g9a k9a) k9b, ec.unseen gb10 upd_same, hbad', a9, a10 ++ [t], some u, rfl, ec.h _ _ k9b, by omega, ec.h _ _ upd_same, by rw [List.length_append, List.length_singleton]; omega, ?_, ?_⟩
            · rw [lo1]; exact i9.mono xc
            · rw [up1, List.map_append]; exact (i10.mono xc).append (.cons (hb'.mono ec.g) .nil)
          · refine ite_no (decide_eq_false hu0) ?_
            dsimp only [tNext]
            rw [if_neg hu0, List.append_nil] at up1
            refine si (eb_val (evd_lt (e0 rfl xa.g) evd_int)) ea.sub fun Gb Hb eb => ?_
            have xb := xa.trans eb
            have k9b := eb.h _ _ k9a
            have k10b := eb.h _ _ k10a
            have g9b := eb.unseen g9a k9a
            have g10b := eb.unseen g10a k10a
            by_cases hl0 : x.1.num < 0
            · refine ite_yes (decide_eq_true hl0) ?_
              have nx : x.1 ≠ 0 := Rat.ne_of_lt (num_neg.mp hl0)
              rw [if_pos hl0] at lo1
              refine s_app (d := fr (x.2.2 / x.1)) rfl k9b (by omega) (ev_div (evd_ixT (eu rfl xb.g) evd_int rfl) (evd_ixT (eu rfl xb.g) evd_int rfl) nx bx.c.sz bx.a.sz) eb.sub fun t Gc Hc ec lc hc' => ?_
              have xc := xb.trans ec
              have gc9 := ec.unseen g9b k9b
              have k10c : (upd Hc l9 (.lst (a9 ++ [t]))) l10 = some (.lst a10) := by rw [upd_ne n910.symm]; exact ec.h _ _ k10b
              refine ⟨Gc, (e8.trans xc).mut n9 gc9, s7.trans xc.g, gc9, ec.unseen g10b k10b, hbad', a9 ++ [t], a10, some u, rfl, upd_same, by rw [List.length_append, List.length_singleton]; omega, k10c, by omega, ?_, ?_⟩
              · rw [lo1, List.map_append]; exact (i9.mono xc.g).append (.cons hc' .nil)
              · rw [up1]; exact i10.mono xc.g
            · refine ite_no (decide_eq_false hl0) ?_
              rw [if_neg hl0, List.append_nil] at lo1
              exact ⟨Gb, e8.trans xb, s7.trans xb.g, g9b, g10b, hbad', a9, a10, some u, rfl, k9b, by omega, k10b, by omega, by rw [lo1]; exact i9.mono xb.g, by rw [up1]; exact i10.mono xb.g⟩
      · rintro σ' G8 H8 ⟨e8, s7, g9, g10, hbad, a9, a10, u0, rfl, k9, z9, k10, z10, i9, i10⟩
        rw [List.length_map] at hbad i9 i10 z9 z10
        rw [List.take_length] at hbad i9 i10
        have x9 := e8.show n9 g9 k9
        have g10' : (upd G8 l9 (.lst a9)) l10 = none := by rw [upd_ne n910.symm]; exact g10
        have xA := x9.show n10 g10' k10
        have j9 : Is K (upd (upd G8 l9 (.lst a9)) l10 (.lst a10)) (.ref l9) (.list ((lowers rs).map fr)) := .lst (by rw [upd_ne n910]; exact upd_same) ((i9.mono (Ex.new g9)).mono (Ex.new g10'))
        have j10 : Is K (upd (upd G8 l9 (.lst a9)) l10 (.lst a10)) (.ref l10) (.list ((uppers rs).map fr)) := .lst upd_same ((i10.mono (Ex.new g9)).mono (Ex.new g10'))
        generalize upd (upd G8 l9 (.lst a9)) l10 (.lst a10) = GA at *
        change tSeq _ _ _ [some v1, some v2, some v3, some vl, some (.ref D), a0, b0, c0, d0, some (.ref l9), some (.ref l10), u0, none, none, none, none] H8
        have lB := lowersB hR
        have uB := uppersB hR
        have lL : (lowers rs).length ≤ 50000 := by unfold lowers; rw [List.length_map]; exact Nat.le_trans (List.length_filter_le ..) (by omega)
        have uL : (uppers rs).length ≤ 50000 := by unfold uppers; rw [List.length_map]; exact Nat.le_trans (List.length_filter_le ..) (by omega)
        refine qa (evd_call (es_cons (evd_var rfl j9) es_nil) (R := RGreatest) ⟨_, rfl, lL, fun x hx => (lB x hx).sz, rfl⟩) xA.sub fun v12 GB HB eB gB => ?_
        refine qa (evd_call (es_cons (evd_var rfl (j10.mono eB.g)) es_nil) (R := RLeast) ⟨_, rfl, uL, fun x hx => (uB x hx).sz, rfl⟩) eB.sub fun v13 GC HC eC gC => ?_
        change tSeq _ _ _ [some v1, some v2, some v3, some vl, some (.ref D), a0, b0, c0, d0, some (.ref l9), some (.ref l10), u0, some v12, some v13, none, none] HC
        have hbd : boundsOf rs = if crossed (greatestR (lowers rs), leastR (uppers rs)) then none else some (greatestR (lowers rs), leastR (uppers rs)) := by
          unfold boundsOf
          rw [if_neg (by rw [hbad]; exact Bool.false_ne_true)]
        rw [hbd] at q
        have sl : ∀ x, greatestR (lowers rs) = some x → Sz x := fun x hx => (lB x (greatest_some hx).1).sz
        have su : ∀ x, leastR (uppers rs) = some x → Sz x := fun x hx => (uB x (least_some hx).1).sz
        generalize greatestR (lowers rs) = lo at *
        generalize leastR (uppers rs) = hi at *
        have elo : ∀ {σ : L2.St} {G9}, σ[12]? = some (some v12) → Ex GC G9 → EvD K (tVar 12) σ G9 (ofr lo) := fun hs t => evd_var hs (gB.mono (eC.g.trans t))
        have ehi : ∀ {σ : L2.St} {G9}, σ[13]? = some (some v13) → Ex GC G9 → EvD K (tVar 13) σ G9 (ofr hi) := fun hs t => evd_var hs (gC.mono t)
        have tst : EvB (tAnd (tTest (tOp rNotNo (tVar 12) (tC .non))) (tAnd (tTest (tOp rNotNo (tVar 13) (tC .non))) (tB (tCall (spR K RLess) [] E0 (tCons (tVar 13) (tCons (tVar 12) tNil)))))) [some v1, some v2, some v3, some vl, some (.ref D), a0, b0, c0, d0, some (.ref l9), some (.ref l10), u0, some v12, some v13, none, none] GC (crossed (lo, hi)) := by
          cases lo with
          | none => exact eb_and (a := false) (eb_val (evd_notN (elo rfl (Ex.refl _)))) (fun h => by cases h) (b := false)
          | some l =>
            refine EvB.to (eb_and (a := true) (eb_val (evd_notN (elo rfl (Ex.refl _)))) fun _ => ?_) (b := true && crossed (some l, hi)) (Bool.true_and _)
            cases hi with
            | none => exact eb_and (a := false) (eb_val (evd_notN (ehi rfl (Ex.refl _)))) (fun h => by cases h) (b := false)
            | some u => exact eb_and (a := true) (eb_val (evd_notN (ehi rfl (Ex.refl _)))) fun _ => eb_valB (ev_less (ehi rfl (Ex.refl _)) (elo rfl (Ex.refl _)) (su u rfl) (sl l rfl))
        refine qi tst eC.sub fun GD HD eD => ite_by (fun hb => ?_) fun hb => ?_
        · rw [if_pos hb] at q
          exact sr (evd_tup es_nil) eD.sub fun v Ga Ha ea ha => q v Ga Ha ((((xA.trans eB).trans eC).trans eD).trans ea) ha
        · rw [if_neg (fun z => by rw [hb] at z; cases z)] at q
          dsimp only [tNext]
          exact sr (evd_tup (es_cons (elo rfl eD.g) (es_cons (ehi rfl eD.g) es_nil))) eD.sub fun v Ga Ha ea ha => q v Ga Ha ((((xA.trans eB).trans eC).trans eD).trans ea) ha
end
end Rt
namespace Rt
open PySem PySem.Spec PyProof.Rows L2 Evl
/-- the sample ray of some half-planes, by the two bounds -/
def RSample : Rl := fun ds r => ∃ (ps : List Pl) (b b' : Bds), ds = [.list (ps.map pld)] ∧ ps.length ≤ 16 ∧ (∀ x ∈ ps, PlBits 72 x) ∧ boundsOf (rowsOf (ps.map (lineOf false))) = some b ∧
  boundsOf (rowsOf ((ps ++ [planeOf 1 0 (nearOf b), planeOf (-1) 0 (-nearOf b)]).map (lineOf true))) = some b' ∧ r = rayd (nearOf b, nearOf b')
/-- what the law says of the clearances -/
def due1 (t : List El) (rs : List Ray) (e : Edge) : Option Rat :=
  if e.2.1 then (greatestR (rs.map fun r => (out (t.take e.1) r).1)).map fun x => e.2.2 - x else (leastR (rs.map fun r => (out (t.take e.1) r).1)).map fun x => x - e.2.2
theorem due_told (t : List El) (rs : List Ray) (e : Edge) : due1 t rs e = leastR (rs.map (clr t e)) := by
  obtain ⟨i, up, h⟩ := e
  cases up with
  | false =>
    show (leastR (rs.map fun r => (out (t.take i) r).1)).map (fun x => x - h) = leastR (rs.map fun r => ((transfer (t.take i)).app r).1 - h)
    rw [← least_sub, List.map_map]
    simp only [out_eq]
    rfl
  | true =>
    show (greatestR (rs.map fun r => (out (t.take i) r).1)).map (fun x => h - x) = leastR (rs.map fun r => h - ((transfer (t.take i)).app r).1)
    rw [← least_rsub, List.map_map]
    simp only [out_eq]
    rfl
def RDue : Rl := fun ds r => ∃ (t : List El) (rs : List Ray), ds = [traind t, .list (rs.map rayd)] ∧ Good t ∧ rs ≠ [] ∧ rs.length ≤ 10 ∧ (∀ y ∈ rs, RayB y) ∧ r = .list ((told t rs).map told1)
theorem PlBits.mono {n m : Nat} {x : Pl} (h : PlBits n x) (hm : n ≤ m) : PlBits m x :=
  ⟨Nat.lt_of_lt_of_le h.1 (Nat.pow_le_pow_right (by decide) hm), Nat.lt_of_lt_of_le h.2.1 (Nat.pow_le_pow_right (by decide) hm), Nat.lt_of_lt_of_le h.2.2 (Nat.pow_le_pow_right (by decide) hm)⟩
/-- with smaller planes smaller bounds -/
structure LnB7 (l : Ln) : Prop where
  a : B 72 1 l.1
  b : B 72 1 l.2.1
  c : B 72 1 l.2.2
theorem rows7 {ls : List Ln} (h : ∀ l ∈ ls, LnB7 l) : ∀ r ∈ rowsOf ls, B 147 75 r.1 ∧ B 147 75 r.2.2 := by
  intro r hr
  rcases of_append hr with hr | hr
  · have b := h r (List.mem_filter.mp hr).1
    exact ⟨b.a.mono (by decide) (by decide), b.c.mono (by decide) (by decide)⟩
  · obtain ⟨x, hx, hc⟩ := List.mem_flatMap.mp hr
    obtain ⟨y, hy, rfl⟩ := of_map hc
    obtain ⟨y1, y2⟩ := List.mem_filter.mp hy
    have bx := h x (List.mem_filter.mp hx).1
    have by' := h y y1
    have ny : y.2.1 ≠ 0 := Rat.ne_of_lt (num_neg.mp (of_decide_eq_true y2))
    have s : B 73 73 (shareOf x y) := ((bx.b.div by'.b ny).neg).mono (by decide) (by decide)
    exact ⟨(bx.a.add (s.mul by'.a) (k := 147) (by decide) (by decide)).mono (by decide) (by decide), (bx.c.add (s.mul by'.c) (k := 147) (by decide) (by decide)).mono (by decide) (by decide)⟩
theorem bounds7 {rs : List Ln} {b : Bds} (h : ∀ r ∈ rs, B 147 75 r.1 ∧ B 147 75 r.2.2) (e : boundsOf rs = some b) : B 222 222 (nearOf b) := by
  have hl : ∀ x ∈ lowers rs, B 222 222 x := by
    intro x hx
    obtain ⟨r, hr, rfl⟩ := of_map hx
    obtain ⟨r1, r2⟩ := List.mem_filter.mp hr
    exact (h r r1).2.div (h r r1).1 (Rat.ne_of_lt (num_neg.mp (of_decide_eq_true r2)))
  have hu : ∀ x ∈ uppers rs, B 222 222 x := by
    intro x hx
    obtain ⟨r, hr, rfl⟩ := of_map hx
    obtain ⟨r1, r2⟩ := List.mem_filter.mp hr
    exact (h r r1).2.div (h r r1).1 (Rat.ne_of_gt (num_pos.mp (of_decide_eq_true r2)))
  unfold boundsOf at e
  split at e
  · cases e
  split at e
  · cases e
  cases e
  have hz : B 222 222 0 := .zero (by decide)
  cases e1 : greatestR (lowers rs) with
  | none =>
    cases e2 : leastR (uppers rs) with
    | none => exact hz
    | some u =>
      show B 222 222 (if u < 0 then u else 0)
      split
      · exact hu u (least_some e2).1
      · exact hz
  | some l =>
    have hl' := hl l (greatest_some e1).1
    cases e2 : leastR (uppers rs) with
    | none =>
      show B 222 222 (if 0 < l then l else 0)
      split
      · exact hl'
      · exact hz
    | some u =>
      show B 222 222 (if 0 < l then l else if u < 0 then u else 0)
      split
      · exact hl'
      · split
        · exact hu u (least_some e2).1
        · exact hz
theorem C.self (x : Rat) : C x.den x.num.natAbs x := ⟨x.num, (num_eq x).symm, Nat.le_refl _⟩
theorem C.whole1 {D : Nat} : C D D (1 : Rat) := C.one_scale
theorem top_plane {h : Rat} (hh : B 222 222 h) : PlBits 222 (planeOf 1 0 h) ∧ PlBits 222 (planeOf (-1) 0 (-h)) := by
  have m : Nat.max h.den h.num.natAbs < 2 ^ 222 := Nat.max_lt.mpr ⟨hh.2, hh.1⟩
  have c1 : C h.den (Nat.max h.den h.num.natAbs) 1 := C.whole1.mono (Nat.le_max_left ..)
  have ch : C h.den (Nat.max h.den h.num.natAbs) h := (C.self h).mono (Nat.le_max_right ..)
  have fin : ∀ {p q u : Rat}, (p ≠ 0 ∨ q ≠ 0) → C h.den (Nat.max h.den h.num.natAbs) p → C h.den (Nat.max h.den h.num.natAbs) q → C h.den (Nat.max h.den h.num.natAbs) u → PlBits 222 (planeOf p q u) := fun n a b c => by
    obtain ⟨x, y, z⟩ := plane_size h.den_nz n a b c
    exact ⟨Nat.lt_of_le_of_lt x m, Nat.lt_of_le_of_lt y m, Nat.lt_of_le_of_lt z m⟩
  exact ⟨fin (.inl (by decide)) c1 .zero ch, fin (.inl (by decide)) c1.neg .zero ch.neg⟩
section
variable {w : World} {P : Program} {K : PySem.W.Frag} {mg : Str → Option Value} {base : Heap} {f : Addr} {fd : FuncData}
abbrev s_law_edges : Stmt := top 57
theorem sc_law_edges : FnScope ["_law_train_here", "_law_found", "_law_place", "_law_element_here", "_law_a", "_law_b", "_law_c", "_law_d", "_law_e", "_law_f"] ["_law_train_here"] (defScope s_law_edges) := ⟨rfl, rfl, rfl, by decide +kernel, rfl, by decide +kernel, by decide +kernel⟩
theorem lk__law_edges__law_train_here : (defScope s_law_edges).names.lookup ("_law_train_here" : Str) = some .local := by decide +kernel
theorem lk__law_edges__law_found : (defScope s_law_edges).names.lookup ("_law_found" : Str) = some .local := by decide +kernel
theorem lk__law_edges__law_place : (defScope s_law_edges).names.lookup ("_law_place" : Str) = some .local := by decide +kernel
theorem lk__law_edges__law_element_here : (defScope s_law_edges).names.lookup ("_law_element_here" : Str) = some .local := by decide +kernel
theorem lk__law_edges__law_a : (defScope s_law_edges).names.lookup ("_law_a" : Str) = some .local := by decide +kernel
theorem lk__law_edges__law_b : (defScope s_law_edges).names.lookup ("_law_b" : Str) = some .local := by decide +kernel
theorem lk__law_edges__law_c : (defScope s_law_edges).names.lookup ("_law_c" : Str) = some .local := by decide +kernel
theorem lk__law_edges__law_d : (defScope s_law_edges).names.lookup ("_law_d" : Str) = some .local := by decide +kernel
theorem lk__law_edges__law_e : (defScope s_law_edges).names.lookup ("_law_e" : Str) = some .local := by decide +kernel
theorem lk__law_edges__law_f : (defScope s_law_edges).names.lookup ("_law_f" : Str) = some .local := by decide +kernel
theorem gk__law_edges_range : (defScope s_law_edges).names.lookup ("range" : Str) = some .globalImplicit := by decide +kernel
theorem gk__law_edges_len : (defScope s_law_edges).names.lookup ("len" : Str) = some .globalImplicit := by decide +kernel
theorem gk__law_edges__law_plane : (defScope s_law_edges).names.lookup ("_law_plane" : Str) = some .globalImplicit := by decide +kernel
theorem gk__law_edges__law_sub : (defScope s_law_edges).names.lookup ("_law_sub" : Str) = some .globalImplicit := by decide +kernel
theorem gk__law_edges__law_neg : (defScope s_law_edges).names.lookup ("_law_neg" : Str) = some .globalImplicit := by decide +kernel
theorem gk__law_edges__law_map : (defScope s_law_edges).names.lookup ("_law_map" : Str) = some .globalImplicit := by decide +kernel
theorem has__law_edges (F : Fun K "_law_edges" "_law_edges" s_law_edges f fd) (m : mg "_law_edges" = some (.ref f)) (zLen : mg "len" = none) (zRange : mg "range" = none) (h_law_map : Has P w K mg base "_law_map" 6 ["_law_train_here"] (spR K RTransfer)) (h_law_plane : Has P w K mg base "_law_plane" 1 ["_law_p", "_law_q", "_law_r"] (spR K RPlane)) (h_law_neg : Has P w K mg base "_law_neg" 1 ["_law_one"] (spR K RNeg)) (h_law_sub : Has P w K mg base "_law_sub" 3 ["_law_one", "_law_other"] (spR K RSub)) : Has P w K mg base "_law_edges" 7 ["_law_train_here"] (spR K REdgesL) :=
  has_pure F m (F.binds fun _ _ _ _ _ _ us hl => match us, hl with | [_], _ => rfl) sc_law_edges (fun ds r ⟨_, e, _⟩ => by rw [e]; rfl) fun cdv A outer s H E hr => by
    refine ⟨_, (pss_cons (ps_set (i := 1) sc_law_edges.nd rfl (Or.inl lk__law_edges__law_found) (pe_lst pa_nil)) (pss_cons (ps_for PassesOwn.never rfl (pi_range1 gk__law_edges_range zRange (pa_cons (pe_callB (call_lenK (K := K) rfl) gk__law_edges_len zLen PySem.boot_len (pa_cons (pv 0 rfl (Or.inl lk__law_edges__law_train_here)) pa_nil)) pa_nil)) (pg_name (i := 2) sc_law_edges.nd rfl (Or.inl lk__law_edges__law_place)) (pss_cons (ps_set (i := 3) sc_law_edges.nd rfl (Or.inl lk__law_edges__law_element_here) (pe_ix (ix_seqK (K := K) rfl) (pv 0 rfl (Or.inl lk__law_edges__law_train_here)) (pv 2 rfl (Or.inl lk__law_edges__law_place)) (fun _ _ => rfl))) (pss_one (ps_if (pt_cmpR (op_eqK (K := K) rfl hr.units) (pe_ix (ix_seqK (K := K) rfl) (pv 3 rfl (Or.inl lk__law_edges__law_element_here)) pe_int (fun _ _ => rfl)) pe_str (nomark _)) (pss_cons (ps_asg (pe_c h_law_map (hr.mono (by decide)) gk__law_edges__law_map (pa_cons (pe_slice (sl_listK (K := K) rfl) (pv 0 rfl (Or.inl lk__law_edges__law_train_here)) po_none (po_some (pv 2 rfl (Or.inl lk__law_edges__law_place)))) pa_nil)) (pg_tupK (K := K) rfl rfl (pgs_cons (pg_name (i := 4) sc_law_edges.nd rfl (Or.inl lk__law_edges__law_a)) (pgs_cons (pg_name (i := 5) sc_law_edges.nd rfl (Or.inl lk__law_edges__law_b)) (pgs_cons (pg_name (i := 6) sc_law_edges.nd rfl (Or.inl lk__law_edges__law_c)) (pgs_cons (pg_name (i := 7) sc_law_edges.nd rfl (Or.inl lk__law_edges__law_d)) (pgs_cons (pg_name (i := 8) sc_law_edges.nd rfl (Or.inl lk__law_edges__law_e)) (pgs_cons (pg_name (i := 9) sc_law_edges.nd rfl (Or.inl lk__law_edges__law_f)) pgs_nil)))))))) (pss_cons (ps_if (pt_cmpR op_notNo (pe_ix (ix_seqK (K := K) rfl) (pv 3 rfl (Or.inl lk__law_edges__law_element_here)) pe_int (fun _ _ => rfl)) pe_non (nomark _)) (pss_one (ps_expr (pe_appK (K := K) rfl (pv 1 rfl (Or.inl lk__law_edges__law_found)) (pe_tup (pa_cons (pe_tup (pa_cons (pv 2 rfl (Or.inl lk__law_edges__law_place)) (pa_cons pe_str pa_nil))) (pa_cons (pe_c h_law_plane (hr.mono (by decide)) gk__law_edges__law_plane (pa_cons (pe_c h_law_neg (hr.mono (by decide)) gk__law_edges__law_neg (pa_cons (pv 4 rfl (Or.inl lk__law_edges__law_a)) pa_nil)) (pa_cons (pe_c h_law_neg (hr.mono (by decide)) gk__law_edges__law_neg (pa_cons (pv 5 rfl (Or.inl lk__law_edges__law_b)) pa_nil)) (pa_cons (pe_c h_law_sub (hr.mono (by decide)) gk__law_edges__law_sub (pa_cons (pv 8 rfl (Or.inl lk__law_edges__law_e)) (pa_cons (pe_ix (ix_seqK (K := K) rfl) (pv 3 rfl (Or.inl lk__law_edges__law_element_here)) pe_int (fun _ _ => rfl)) pa_nil))) pa_nil)))) pa_nil)))))) pss_nil) (pss_one (ps_if (pt_cmpR op_notNo (pe_ix (ix_seqK (K := K) rfl) (pv 3 rfl (Or.inl lk__law_edges__law_element_here)) pe_int (fun _ _ => rfl)) pe_non (nomark _)) (pss_one (ps_expr (pe_appK (K := K) rfl (pv 1 rfl (Or.inl lk__law_edges__law_found)) (pe_tup (pa_cons (pe_tup (pa_cons (pv 2 rfl (Or.inl lk__law_edges__law_place)) (pa_cons pe_str pa_nil))) (pa_cons (pe_c h_law_plane (hr.mono (by decide)) gk__law_edges__law_plane (pa_cons (pv 4 rfl (Or.inl lk__law_edges__law_a)) (pa_cons (pv 5 rfl (Or.inl lk__law_edges__law_b)) (pa_cons (pe_c h_law_sub (hr.mono (by decide)) gk__law_edges__law_sub (pa_cons (pe_ix (ix_seqK (K := K) rfl) (pv 3 rfl (Or.inl lk__law_edges__law_element_here)) pe_int (fun _ _ => rfl)) (pa_cons (pv 8 rfl (Or.inl lk__law_edges__law_e)) pa_nil))) pa_nil)))) pa_nil)))))) pss_nil)))) pss_nil)))) (pss_one (ps_ret (pv 1 rfl (Or.inl lk__law_edges__law_found)))))), fun vs ds r G Q sG hv hR q => ?_⟩
    obtain ⟨t, rfl, ht, rfl⟩ := hR
    obtain ⟨v, rfl, h1⟩ := hv.one
    refine ⟨(Nat.zero_le _), fun l hl => ?_⟩
    have gl : G l = none := fresh_back sG hl
    have x1 : Ext G H G (upd H l (.lst [])) := (Ext.refl sG).mut hl gl
    have ht100 : t.length ≤ 8 := ht.1
    have hlen : (t.map El.dat).length = t.length := List.length_map ..
    change tSeq _ _ _ [some v, some (.ref l), none, none, none, none, none, none, none, none] _
    refine q_forR (n := t.length) ((evd_len (evd_var rfl h1)).to (by rw [hlen])) (by omega) x1.sub fun G2 H2 e2 => ⟨fun i σ' G' H' => Ext G H G' H' ∧ Ex G2 G' ∧ G' l = none ∧ ∃ acc u1 u2 u3 u4 u5 u6 u7 u8, σ' = [some v, some (.ref l), u1, u2, u3, u4, u5, u6, u7, u8] ∧ H' l = some (.lst acc) ∧ acc.length ≤ 2 * i ∧ IsAll K G' acc ((edges (t.take i)).map fun e => .tuple [ekey e, pld (planeE t e)]),
      ⟨x1.trans e2, Ex.refl _, e2.unseen gl upd_same, [], none, none, none, none, none, none, none, none, rfl, e2.h _ _ upd_same, Nat.le_refl _, .nil⟩, ?_, ?_⟩
    · rintro i σ' G' H' hit ⟨e, s2, gl', acc, u1, u2, u3, u4, u5, u6, u7, u8, rfl, hacc, hal, hall⟩
      have hel : t[i]? = some t[i] := List.getElem?_eq_getElem hit
      generalize t[i] = el at hel
      have hE := edges_take hel
      have hmem : ∀ x ∈ edgesAt i el, x ∈ edges t := by
        intro x hx
        have : x ∈ edges (t.take (i + 1)) := by rw [hE]; exact List.mem_append_right _ hx
        obtain ⟨j, lo, hi, a1, a2, a3⟩ := edges_mem _ 0 x this
        have : ∀ (t : List El) (k n : Nat), x ∈ edgesFrom k (t.take n) → x ∈ edgesFrom k t := by
          intro t
          induction t with
          | nil => intro k n h; simp [edgesFrom] at h
          | cons a t ih =>
            intro k n h
            cases n with
            | zero => simp [edgesFrom] at h
            | succ n =>
              rcases of_append (show x ∈ edgesAt k a ++ edgesFrom (k + 1) (t.take n) from h) with h | h
              · exact List.mem_append_left _ h
              · exact List.mem_append_right _ (ih _ _ h)
        refine this t 0 (i + 1) ?_
        show x ∈ edges (t.take (i + 1))
        rw [hE]
        exact List.mem_append_right _ hx
      have hz : acc.length < 90000 := by omega
      have gt : Is K G' v (traind t) := h1.mono ((x1.trans e2).g.trans s2)
      change tSeq _ _ _ [some v, some (.ref l), some (.int (i : Int)), u2, u3, u4, u5, u6, u7, u8] H'
      refine qa (evd_ixL (d := el.dat) (evd_var rfl gt) (evd_var (v := .int (i : Int)) rfl (.int (i : Int))) (atI_nat (by rw [List.getElem?_map, hel]; rfl))) e.sub fun v3 G3 H3 e3 g3 => ?_
      change tIfS _ _ _ _ [some v, some (.ref l), some (.int (i : Int)), some v3, u3, u4, u5, u6, u7, u8] H3
      have l3 := e3.h _ _ hacc
      have gl3 := e3.unseen gl' hacc
      have eu : ∀ {σ : L2.St} {G9}, σ[3]? = some (some v3) → Ex G3 G9 → EvD K (tVar 3) σ G9 el.dat := fun hs x => evd_var hs (g3.mono x)
      have ei : ∀ {σ : L2.St} {G9}, σ[2]? = some (some (.int (i : Int))) → EvD K (tVar 2) σ G9 (.int (i : Int)) := fun hs => evd_var hs (.int _)
      refine si (eb_kind (eu rfl (Ex.refl _))) e3.sub fun G4 H4 e4 => ?_
      have x4 := (e.trans e3).trans e4
      have l4 := e4.h _ _ l3
      have gl4 := e4.unseen gl3 l3
      cases el with
      | gap _ => exact ite_no (decide_eq_false n_gs) ⟨G4, x4, s2.trans (e3.trans e4).g, gl4, acc, _, _, _, _, _, _, _, _, rfl, l4, by omega, by rw [hE, show edgesAt i (.gap _) = [] from rfl, List.append_nil]; exact hall.mono (e3.trans e4).g⟩
      | lens _ _ => exact ite_no (decide_eq_false n_ls) ⟨G4, x4, s2.trans (e3.trans e4).g, gl4, acc, _, _, _, _, _, _, _, _, rfl, l4, by omega, by rw [hE, show edgesAt i (.lens _ _) = [] from rfl, List.append_nil]; exact hall.mono (e3.trans e4).g⟩
      | prism _ => exact ite_no (decide_eq_false n_ps) ⟨G4, x4, s2.trans (e3.trans e4).g, gl4, acc, _, _, _, _, _, _, _, _, rfl, l4, by omega, by rw [hE, show edgesAt i (.prism _) = [] from rfl, List.append_nil]; exact hall.mono (e3.trans e4).g⟩
      | afocal _ => exact ite_no (decide_eq_false n_as) ⟨G4, x4, s2.trans (e3.trans e4).g, gl4, acc, _, _, _, _, _, _, _, _, rfl, l4, by omega, by rw [hE, show edgesAt i (.afocal _) = [] from rfl, List.append_nil]; exact hall.mono (e3.trans e4).g⟩
      | stop lo hi =>
        refine ite_yes (decide_eq_true rfl) ?_
        have tk := evd_cut (evd_var (σ := [some v, some (.ref l), some (.int (i : Int)), some v3, u3, u4, u5, u6, u7, u8]) (i := 0) rfl (gt.mono (e3.trans e4).g)) (evd_var (v := .int (i : Int)) (i := 2) rfl (.int (i : Int))) (by rw [hlen]; omega)
        rw [← List.map_take] at tk
        refine s_unp (evd_call (es_cons tk es_nil) (R := RTransfer) ⟨_, rfl, ht.take i, rfl⟩) e4.sub rfl fun xs G5 H5 e5 hxs => ?_
        obtain ⟨a, b, c, d, e', f', rfl, ga, gb, gc, gd, ge, gf⟩ := hxs.six
        refine ⟨a, _, rfl, b, _, rfl, c, _, rfl, d, _, rfl, e', _, rfl, f', _, rfl, rfl, ?_⟩
        change tSeq _ _ _ [some v, some (.ref l), some (.int (i : Int)), some v3, some a, some b, some c, some d, some e', some f'] H5
        have x5 := x4.trans e5
        have l5 := e5.h _ _ l4
        have gl5 := e5.unseen gl4 l4
        have s35 : Ex G3 G5 := (e4.trans e5).g
        have m := bits_transfer (ht.take i)
        have ea : ∀ {σ : L2.St} {G9}, σ[4]? = some (some a) → Ex G5 G9 → EvD K (tVar 4) σ G9 (fr (transfer (t.take i)).a) := fun hs x => evd_var hs (ga.mono x)
        have eb : ∀ {σ : L2.St} {G9}, σ[5]? = some (some b) → Ex G5 G9 → EvD K (tVar 5) σ G9 (fr (transfer (t.take i)).b) := fun hs x => evd_var hs (gb.mono x)
        have ee : ∀ {σ : L2.St} {G9}, σ[8]? = some (some e') → Ex G5 G9 → EvD K (tVar 8) σ G9 (fr (transfer (t.take i)).e) := fun hs x => evd_var hs (ge.mono x)
        -- the upper one, behind whatever stands
        have up : ∀ (G6 H6 : Hp) (acc6 : List V), Ext G H G6 H6 → Ex G5 G6 → G6 l = none → H6 l = some (.lst acc6) → acc6.length ≤ 2 * i + 1 → IsAll K G6 acc6 (((edges (t.take i)) ++ (lo.toList.map fun x => (i, false, x))).map fun e => .tuple [ekey e, pld (planeE t e)]) →
            tIfS (tTest (tOp rNotNo (tOp (rIx K) (tVar 3) (tC (.int 2))) (tC .non))) (tDrop (tBM K "list" rAppend (tVar 1) (tCons (tTup (tCons (tTup (tCons (tVar 2) (tCons (tC (.str "upper")) tNil))) (tCons (tCall (spR K RPlane) [] E0 (tCons (tVar 4) (tCons (tVar 5) (tCons (tCall (spR K RSub) [] E0 (tCons (tOp (rIx K) (tVar 3) (tC (.int 2))) (tCons (tVar 8) tNil))) tNil)))) tNil))) tNil))) tNext
              { nx := fun σ3 H3 => ∃ G4, Ext G H G4 H3 ∧ Ex G2 G4 ∧ G4 l = none ∧ ∃ acc u1 u2 u3 u4 u5 u6 u7 u8, σ3 = [some v, some (.ref l), u1, u2, u3, u4, u5, u6, u7, u8] ∧ H3 l = some (.lst acc) ∧ acc.length ≤ 2 * (i + 1) ∧ IsAll K G4 acc ((edges (t.take (i + 1))).map fun e => .tuple [ekey e, pld (planeE t e)]), rt := Q } [some v, some (.ref l), some (.int (i : Int)), some v3, some a, some b, some c, some d, some e', some f'] H6 := by
          intro G6 H6 acc6 x6 s6 gl6 l6 z6 a6
          refine si (eb_val (evd_notN (evd_ixT (eu rfl (s35.trans s6)) evd_int rfl))) x6.sub fun G7 H7 e7 => ?_
          have l7 := e7.h _ _ l6
          have g7 := e7.unseen gl6 l6
          have s27 : Ex G2 G7 := (((s2.trans e3.g).trans s35).trans s6).trans e7.g
          cases hi with
          | none =>
            refine ite_no rfl ⟨G7, x6.trans e7, s27, g7, acc6, _, _, _, _, _, _, _, _, rfl, l7, by omega, ?_⟩
            rw [hE]
            show IsAll K G7 acc6 ((edges (t.take i) ++ ((lo.toList.map fun x => (i, false, x)) ++ [])).map fun e => .tuple [ekey e, pld (planeE t e)])
            rw [List.append_nil]
            exact a6.mono e7.g
          | some y =>
            refine ite_yes rfl ?_
            have hy : (i, true, y) ∈ edges t := hmem _ (List.mem_append_right _ List.mem_cons_self)
            have by6 := (edge_small hy ht.2).2
            have ne := (planeE_size ht hy).2
            have s7 := s6.trans e7.g
            refine s_app (d := .tuple [ekey (i, true, y), pld (planeE t (i, true, y))]) rfl l7 (by omega) (evd_tup (es_cons (evd_tup (es_cons (ei rfl) (es_cons evd_str es_nil))) (es_cons (evd_call (es_cons (ea rfl s7) (es_cons (eb rfl s7) (es_cons (ev_sub (evd_ixT (eu rfl (s35.trans s7)) evd_int rfl) (ee rfl s7) by6.sz m.e.sz) es_nil))) (R := RPlane) ⟨_, _, _, rfl, ne, m.a.mono (by decide) (by decide), m.b.mono (by decide) (by decide), (by6.sub m.e (k := 100) (by decide) (by decide)).mono (by decide) (by decide), rfl⟩) es_nil))) e7.sub fun z G8 H8 e8 l8 h8 => ?_
            have g8 := e8.unseen g7 l7
            refine ⟨G8, (((x6.trans e7).trans e8).mut hl g8), s27.trans e8.g, g8, acc6 ++ [z], _, _, _, _, _, _, _, _, rfl, upd_same, by rw [List.length_append, List.length_singleton]; omega, ?_⟩
            rw [hE]
            show IsAll K G8 (acc6 ++ [z]) ((edges (t.take i) ++ ((lo.toList.map fun x => (i, false, x)) ++ [(i, true, y)])).map fun e => .tuple [ekey e, pld (planeE t e)])
            rw [← List.append_assoc, List.map_append]
            exact (a6.mono (e7.trans e8).g).append (.cons h8 .nil)
        refine qi (eb_val (evd_notN (evd_ixT (eu rfl s35) evd_int rfl))) e5.sub fun G6 H6 e6 => ?_
        have l6 := e6.h _ _ l5
        have g6 := e6.unseen gl5 l5
        have all6 := hall.mono (((e3.trans e4).trans e5).trans e6).g
        cases lo with
        | none =>
          refine ite_no rfl ?_
          refine up G6 H6 acc (x5.trans e6) e6.g g6 l6 (by omega) ?_
          show IsAll K G6 acc ((edges (t.take i) ++ []).map fun e => .tuple [ekey e, pld (planeE t e)])
          rw [List.append_nil]
          exact all6
        | some y =>
          refine ite_yes rfl ?_
          have hy : (i, false, y) ∈ edges t := hmem _ (List.mem_append_left _ List.mem_cons_self)
          have by6 := (edge_small hy ht.2).2
          have ne := (planeE_size ht hy).2
          refine s_app (d := .tuple [ekey (i, false, y), pld (planeE t (i, false, y))]) rfl l6 (by omega) (evd_tup (es_cons (evd_tup (es_cons (ei rfl) (es_cons evd_str es_nil))) (es_cons (evd_call (es_cons (ev_neg (ea rfl e6.g)) (es_cons (ev_neg (eb rfl e6.g)) (es_cons (ev_sub (ee rfl e6.g) (evd_ixT (eu rfl (s35.trans e6.g)) evd_int rfl) m.e.sz by6.sz) es_nil))) (R := RPlane) ⟨_, _, _, rfl, ne.imp neg_ne neg_ne, m.a.neg.mono (by decide) (by decide), m.b.neg.mono (by decide) (by decide), (m.e.sub by6 (k := 100) (by decide) (by decide)).mono (by decide) (by decide), rfl⟩) es_nil))) e6.sub fun z G8 H8 e8 l8 h8 => ?_
          have g8 := e8.unseen g6 l6
          refine up G8 _ (acc ++ [z]) (((x5.trans e6).trans e8).mut hl g8) (e6.trans e8).g g8 upd_same (by rw [List.length_append, List.length_singleton]; omega) ?_
          show IsAll K G8 (acc ++ [z]) ((edges (t.take i) ++ [(i, false, y)]).map fun e => .tuple [ekey e, pld (planeE t e)])
          rw [List.map_append]
          exact (all6.mono e8.g).append (.cons h8 .nil)
    · rintro σ' G' H' ⟨e, s2, gl', acc, u1, u2, u3, u4, u5, u6, u7, u8, rfl, hacc, hal, hall⟩
      rw [List.take_length] at hall
      exact ⟨.ref l, rfl, q _ (upd G' l (.lst acc)) H' (e.show hl gl' hacc) (.lst upd_same (hall.mono (Ex.new gl')))⟩
abbrev s_law_planes : Stmt := top 58
theorem sc_law_planes : FnScope ["_law_train_here", "_law_edge"] ["_law_train_here"] (defScope s_law_planes) := ⟨rfl, rfl, rfl, by decide +kernel, rfl, by decide +kernel, by decide +kernel⟩
theorem lk__law_planes__law_train_here : (defScope s_law_planes).names.lookup ("_law_train_here" : Str) = some .local := by decide +kernel
theorem gk__law_planes__law_edges : (defScope s_law_planes).names.lookup ("_law_edges" : Str) = some .globalImplicit := by decide +kernel
theorem has__law_planes (F : Fun K "_law_planes" "_law_planes" s_law_planes f fd) (m : mg "_law_planes" = some (.ref f)) (h_law_edges : Has P w K mg base "_law_edges" 7 ["_law_train_here"] (spR K REdgesL)) : Has P w K mg base "_law_planes" 8 ["_law_train_here"] (spR K RPlanes) :=
  has_pure F m (F.binds fun _ _ _ _ _ _ us hl => match us, hl with | [_], _ => rfl) sc_law_planes (fun ds r ⟨_, e, _⟩ => by rw [e]; rfl) fun cdv A outer s H E hr => by
    refine ⟨_, (pss_one (ps_ret (pe_lc (own := [("_law_edge", 1)]) (g := (gName 1)) (tt := tYes) (by rfl) sc_law_planes.nd (pi_listK (K := K) rfl (pe_c h_law_edges (hr.mono (by decide)) gk__law_planes__law_edges (pa_cons (pv 0 rfl (Or.inl lk__law_planes__law_train_here)) pa_nil))) (blkOk_by (own := [("_law_edge", 1)]) (N := ["_law_train_here", "_law_edge"]) (sc := defScope s_law_planes) (by decide +kernel)) (fun _ _ _ _ _ => (pg_name (i := 1) sc_law_planes.nd rfl (Or.inl rfl))) (fun _ _ _ _ _ => pts_nil) (fun _ _ _ _ _ => (pe_ix (ix_seqK (K := K) rfl) (pv 1) pe_int (fun _ _ => rfl)))))), fun vs ds r G Q sG hv hR q => ?_⟩
    obtain ⟨t, rfl, ht, rfl⟩ := hR
    obtain ⟨v, rfl, h1⟩ := hv.one
    have hE : (edges t).length ≤ 100000 := Nat.le_trans (edgesFrom_len t 0) (by have := ht.1; omega)
    refine sr (evd_lcR (xs := edges t) (fun e => .tuple [ekey e, pld (planeE t e)]) (fun e => pld (planeE t e)) (evd_call (es_cons (evd_var rfl h1) es_nil) (R := REdgesL) ⟨t, rfl, ht, rfl⟩) hE (fun _ => rfl) ?_) sG fun v G1 H1 e1 h1 => ?_
    · intro e v G9 s9 _ hv9
      exact evd_ixT (ds := [ekey e, pld (planeE t e)]) (evd_var rfl hv9) evd_int rfl
    · refine q v G1 H1 e1 ?_
      rw [List.map_map]; exact h1
theorem pair01 {K : PySem.W.Frag} {σ : L2.St} {G : Hp} {a b : Int} : EvD K (tTup (tCons (tC (.int a)) (tCons (tC (.int b)) tNil))) σ G (.tuple [.int a, .int b]) := evd_tup (es_cons evd_int (es_cons evd_int es_nil))
abbrev s_law_empty : Stmt := top 61
theorem sc_law_empty : FnScope ["_law_planes_here"] ["_law_planes_here"] (defScope s_law_empty) := ⟨rfl, rfl, rfl, by decide +kernel, rfl, by decide +kernel, by decide +kernel⟩
theorem lk__law_empty__law_planes_here : (defScope s_law_empty).names.lookup ("_law_planes_here" : Str) = some .local := by decide +kernel
theorem gk__law_empty__law_bounds : (defScope s_law_empty).names.lookup ("_law_bounds" : Str) = some .globalImplicit := by decide +kernel
theorem has__law_empty (F : Fun K "_law_empty" "_law_empty" s_law_empty f fd) (m : mg "_law_empty" = some (.ref f)) (h_law_bounds : Has P w K mg base "_law_bounds" 5 ["_law_planes_here", "_law_p", "_law_q"] (spR K RBounds)) : Has P w K mg base "_law_empty" 6 ["_law_planes_here"] (spR K REmpty) :=
  has_pure F m (F.binds fun _ _ _ _ _ _ us hl => match us, hl with | [_], _ => rfl) sc_law_empty (fun ds r ⟨_, e, _⟩ => by rw [e]; rfl) fun cdv A outer s H E hr => by
    refine ⟨_, (pss_one (ps_ret (pe_cmpR (op_eqK (K := K) rfl hr.units) (pe_c h_law_bounds (hr.mono (by decide)) gk__law_empty__law_bounds (pa_cons (pv 0 rfl (Or.inl lk__law_empty__law_planes_here)) (pa_cons (pe_tup (pa_cons pe_int (pa_cons pe_int pa_nil))) (pa_cons (pe_tup (pa_cons pe_int (pa_cons pe_int pa_nil))) pa_nil)))) (pe_tup pa_nil) (nomark _)))), fun vs ds r G Q sG hv hR q => ?_⟩
    obtain ⟨ps, rfl, hl, hp, rfl⟩ := hR
    obtain ⟨v, rfl, h1⟩ := hv.one
    have b := evd_call (es_cons (evd_var (σ := start ["_law_planes_here"] [v]) (i := 0) rfl h1) (es_cons (pair01 (a := 1) (b := 1)) (es_cons (pair01 (a := 0) (b := 1)) es_nil))) (R := RBounds) (E := E0) ⟨ps, false, rfl, hl, hp, rfl⟩
    refine sr ?_ sG q
    generalize boundsOf (rowsOf (ps.map (lineOf false))) = o at *
    cases o with
    | none => exact (evd_eqD b (evd_tup es_nil) rfl rfl).to rfl
    | some x =>
      obtain ⟨l, u⟩ := x
      have sh : ∀ o : Option Rat, SeqAt.shaped (ofr o) = true := fun o => by cases o <;> rfl
      refine (evd_eqD b (evd_tup es_nil) ?_ rfl).to ?_
      · show SeqAt.shaped (.tuple [ofr l, ofr u]) = true
        cases l <;> cases u <;> rfl
      · show PyData.bool (PyData.eqv (.tuple [ofr l, ofr u]) (.tuple [])) = .bool false
        rfl
abbrev s_law_sample : Stmt := top 63
theorem sc_law_sample : FnScope ["_law_planes_here", "_law_height", "_law_top"] ["_law_planes_here"] (defScope s_law_sample) := ⟨rfl, rfl, rfl, by decide +kernel, rfl, by decide +kernel, by decide +kernel⟩
theorem lk__law_sample__law_planes_here : (defScope s_law_sample).names.lookup ("_law_planes_here" : Str) = some .local := by decide +kernel
theorem lk__law_sample__law_height : (defScope s_law_sample).names.lookup ("_law_height" : Str) = some .local := by decide +kernel
theorem lk__law_sample__law_top : (defScope s_law_sample).names.lookup ("_law_top" : Str) = some .local := by decide +kernel
theorem gk__law_sample__law_near : (defScope s_law_sample).names.lookup ("_law_near" : Str) = some .globalImplicit := by decide +kernel
theorem gk__law_sample__law_bounds : (defScope s_law_sample).names.lookup ("_law_bounds" : Str) = some .globalImplicit := by decide +kernel
theorem gk__law_sample__law_plane : (defScope s_law_sample).names.lookup ("_law_plane" : Str) = some .globalImplicit := by decide +kernel
theorem gk__law_sample__law_neg : (defScope s_law_sample).names.lookup ("_law_neg" : Str) = some .globalImplicit := by decide +kernel
theorem has__law_sample (F : Fun K "_law_sample" "_law_sample" s_law_sample f fd) (m : mg "_law_sample" = some (.ref f)) (h_law_bounds : Has P w K mg base "_law_bounds" 5 ["_law_planes_here", "_law_p", "_law_q"] (spR K RBounds)) (h_law_near : Has P w K mg base "_law_near" 1 ["_law_bounds_here"] (spR K RNear)) (h_law_plane : Has P w K mg base "_law_plane" 1 ["_law_p", "_law_q", "_law_r"] (spR K RPlane)) (h_law_neg : Has P w K mg base "_law_neg" 1 ["_law_one"] (spR K RNeg)) : Has P w K mg base "_law_sample" 6 ["_law_planes_here"] (spR K RSample) :=
  has_pure F m (F.binds fun _ _ _ _ _ _ us hl => match us, hl with | [_], _ => rfl) sc_law_sample (fun ds r ⟨_, _, _, e, _⟩ => by rw [e]; rfl) fun cdv A outer s H E hr => by
    refine ⟨_, (pss_cons (ps_set (i := 1) sc_law_sample.nd rfl (Or.inl lk__law_sample__law_height) (pe_c h_law_near (hr.mono (by decide)) gk__law_sample__law_near (pa_cons (pe_c h_law_bounds (hr.mono (by decide)) gk__law_sample__law_bounds (pa_cons (pv 0 rfl (Or.inl lk__law_sample__law_planes_here)) (pa_cons (pe_tup (pa_cons pe_int (pa_cons pe_int pa_nil))) (pa_cons (pe_tup (pa_cons pe_int (pa_cons pe_int pa_nil))) pa_nil)))) pa_nil))) (pss_cons (ps_set (i := 2) sc_law_sample.nd rfl (Or.inl lk__law_sample__law_top) (pe_lst (pa_cons (pe_c h_law_plane (hr.mono (by decide)) gk__law_sample__law_plane (pa_cons (pe_tup (pa_cons pe_int (pa_cons pe_int pa_nil))) (pa_cons (pe_tup (pa_cons pe_int (pa_cons pe_int pa_nil))) (pa_cons (pv 1 rfl (Or.inl lk__law_sample__law_height)) pa_nil)))) (pa_cons (pe_c h_law_plane (hr.mono (by decide)) gk__law_sample__law_plane (pa_cons (pe_tup (pa_cons (pe_un un_negI pe_int) (pa_cons pe_int pa_nil))) (pa_cons (pe_tup (pa_cons pe_int (pa_cons pe_int pa_nil))) (pa_cons (pe_c h_law_neg (hr.mono (by decide)) gk__law_sample__law_neg (pa_cons (pv 1 rfl (Or.inl lk__law_sample__law_height)) pa_nil)) pa_nil)))) pa_nil)))) (pss_one (ps_ret (pe_tup (pa_cons (pv 1 rfl (Or.inl lk__law_sample__law_height)) (pa_cons (pe_c h_law_near (hr.mono (by decide)) gk__law_sample__law_near (pa_cons (pe_c h_law_bounds (hr.mono (by decide)) gk__law_sample__law_bounds (pa_cons (pe_op (op_addK (K := K) rfl) (pv 0 rfl (Or.inl lk__law_sample__law_planes_here)) (pv 2 rfl (Or.inl lk__law_sample__law_top))) (pa_cons (pe_tup (pa_cons pe_int (pa_cons pe_int pa_nil))) (pa_cons (pe_tup (pa_cons pe_int (pa_cons pe_int pa_nil))) pa_nil)))) pa_nil)) pa_nil))))))), fun vs ds r G Q sG hv hR q => ?_⟩
    obtain ⟨ps, b, b', rfl, hl, hp, hb, hb', rfl⟩ := hR
    obtain ⟨v, rfl, h1⟩ := hv.one
    have hp2 : ∀ x ∈ ps, PlBits 222 x := fun x hx => (hp x hx).mono (by decide)
    have hn : B 222 222 (nearOf b) := bounds7 (rows7 fun l hl => by
      obtain ⟨x, hx, rfl⟩ := of_map hl
      have := hp x hx
      exact ⟨.int this.1, .int this.2.1, .int this.2.2⟩) hb
    obtain ⟨t1, t2⟩ := top_plane hn
    have b1 := evd_call (es_cons (evd_var (σ := start ["_law_planes_here", "_law_height", "_law_top"] [v]) (i := 0) rfl h1) (es_cons (pair01 (a := 1) (b := 1)) (es_cons (pair01 (a := 0) (b := 1)) es_nil))) (R := RBounds) (E := E0) ⟨ps, false, rfl, by omega, hp2, rfl⟩
    rw [hb] at b1
    refine qa (evd_call (es_cons b1 es_nil) (R := RNear) ⟨b, rfl, rfl⟩) sG fun v1 G1 H1 e1 g1 => ?_
    change tSeq _ _ _ [some v, some v1, none] H1
    have eh : ∀ {σ : L2.St} {G9}, σ[1]? = some (some v1) → Ex G1 G9 → EvD K (tVar 1) σ G9 (fr (nearOf b)) := fun hs x => evd_var hs (g1.mono x)
    have n7 : B e7 e7 (nearOf b) := hn.mono (by decide) (by decide)
    have o7 : B e7 e7 1 := B.one (by decide) (by decide)
    have z7 : B e7 e7 0 := B.zero (by decide)
    refine qa (evd_lst (es_cons (evd_call (es_cons (pair01 (a := 1) (b := 1)) (es_cons (pair01 (a := 0) (b := 1)) (es_cons (eh rfl (Ex.refl _)) es_nil))) (R := RPlane) ⟨1, 0, _, rfl, .inl (by decide), o7, z7, n7, rfl⟩)
      (es_cons (evd_call (es_cons (evd_tup (es_cons (evd_neg evd_int) (es_cons evd_int es_nil))) (es_cons (pair01 (a := 0) (b := 1)) (es_cons (ev_neg (eh rfl (Ex.refl _))) es_nil))) (R := RPlane) ⟨-1, 0, _, rfl, .inl (by decide), o7.neg, z7, n7.neg, rfl⟩) es_nil))) e1.sub fun v2 G2 H2 e2 g2 => ?_
    change tRet _ _ [some v, some v1, some v2] H2
    have cat := evd_catL (evd_var (σ := [some v, some v1, some v2]) (i := 0) rfl (h1.mono (e1.trans e2).g)) (evd_var (σ := [some v, some v1, some v2]) (i := 2) rfl g2) (by simp; omega)
    have ecat : (ps.map pld ++ [pld (planeOf 1 0 (nearOf b)), pld (planeOf (-1) 0 (-nearOf b))]) = (ps ++ [planeOf 1 0 (nearOf b), planeOf (-1) 0 (-nearOf b)]).map pld := by rw [List.map_append]; rfl
    rw [ecat] at cat
    have hp3 : ∀ x ∈ ps ++ [planeOf 1 0 (nearOf b), planeOf (-1) 0 (-nearOf b)], PlBits 222 x := by
      intro x hx
      rcases of_append hx with hx | hx
      · exact hp2 x hx
      · rcases of_cons hx with hx | hx
        · rw [hx]; exact t1
        · rw [of_one hx]; exact t2
    have hl3 : (ps ++ [planeOf 1 0 (nearOf b), planeOf (-1) 0 (-nearOf b)]).length ≤ 20 := by rw [List.length_append]; show ps.length + 2 ≤ 20; omega
    have b2 := evd_call (es_cons cat (es_cons (pair01 (a := 0) (b := 1)) (es_cons (pair01 (a := 1) (b := 1)) es_nil))) (R := RBounds) (E := E0) ⟨_, true, rfl, hl3, hp3, rfl⟩
    rw [hb'] at b2
    refine sr (evd_tup (es_cons (eh rfl e2.g) (es_cons (evd_call (es_cons b2 es_nil) (R := RNear) ⟨b', rfl, rfl⟩) es_nil))) e2.sub fun v9 G9 H9 e9 h9 => ?_
    exact q v9 G9 H9 ((e1.trans e2).trans e9) h9
abbrev s_law_due : Stmt := top 64
theorem sc_law_due : FnScope ["_law_train_here", "_law_rays", "_law_found", "_law_place", "_law_heights", "_law_ray_here"] ["_law_train_here", "_law_rays"] (defScope s_law_due) := ⟨rfl, rfl, rfl, by decide +kernel, rfl, by decide +kernel, by decide +kernel⟩
theorem lk__law_due__law_train_here : (defScope s_law_due).names.lookup ("_law_train_here" : Str) = some .cell := by decide +kernel
theorem lk__law_due__law_rays : (defScope s_law_due).names.lookup ("_law_rays" : Str) = some .local := by decide +kernel
theorem lk__law_due__law_found : (defScope s_law_due).names.lookup ("_law_found" : Str) = some .local := by decide +kernel
theorem lk__law_due__law_place : (defScope s_law_due).names.lookup ("_law_place" : Str) = some .cell := by decide +kernel
theorem lk__law_due__law_heights : (defScope s_law_due).names.lookup ("_law_heights" : Str) = some .local := by decide +kernel
theorem gk__law_due_range : (defScope s_law_due).names.lookup ("range" : Str) = some .globalImplicit := by decide +kernel
theorem gk__law_due_len : (defScope s_law_due).names.lookup ("len" : Str) = some .globalImplicit := by decide +kernel
theorem gk__law_due__law_sub : (defScope s_law_due).names.lookup ("_law_sub" : Str) = some .globalImplicit := by decide +kernel
theorem gk__law_due__law_greatest : (defScope s_law_due).names.lookup ("_law_greatest" : Str) = some .globalImplicit := by decide +kernel
theorem gk__law_due__law_least : (defScope s_law_due).names.lookup ("_law_least" : Str) = some .globalImplicit := by decide +kernel
theorem has__law_due (F : Fun K "_law_due" "_law_due" s_law_due f fd) (m : mg "_law_due" = some (.ref f)) (zLen : mg "len" = none) (zRange : mg "range" = none) (h_law_out : Has P w K mg base "_law_out" 5 ["_law_train_here", "_law_ray_here"] (spR K ROut)) (h_law_sub : Has P w K mg base "_law_sub" 3 ["_law_one", "_law_other"] (spR K RSub)) (h_law_least : Has P w K mg base "_law_least" 2 ["_law_values"] (spR K RLeast)) (h_law_greatest : Has P w K mg base "_law_greatest" 2 ["_law_values"] (spR K RGreatest)) : Has P w K mg base "_law_due" 6 ["_law_train_here", "_law_rays"] (spR K RDue) :=
  has_pure F m (F.binds fun _ _ _ _ _ _ us hl => match us, hl with | [_, _], _ => rfl) sc_law_due (fun ds r ⟨_, _, e, _⟩ => by rw [e]; rfl) fun cdv A outer s H E hr => by
    refine ⟨_, (pss_cons (ps_set (i := 2) sc_law_due.nd rfl (Or.inl lk__law_due__law_found) (pe_lst pa_nil)) (pss_cons (ps_for PassesOwn.never rfl (pi_range1 gk__law_due_range zRange (pa_cons (pe_callB (call_lenK (K := K) rfl) gk__law_due_len zLen PySem.boot_len (pa_cons (pv 0 rfl (Or.inr (Or.inl lk__law_due__law_train_here))) pa_nil)) pa_nil)) (pg_name (i := 3) sc_law_due.nd rfl (Or.inr lk__law_due__law_place)) (pss_one (ps_if (pt_cmpR (op_eqK (K := K) rfl hr.units) (pe_ix (ix_seqK (K := K) rfl) (pe_ix (ix_seqK (K := K) rfl) (pv 0 rfl (Or.inr (Or.inl lk__law_due__law_train_here))) (pv 3 rfl (Or.inr (Or.inl lk__law_due__law_place))) (fun _ _ => rfl)) pe_int (fun _ _ => rfl)) pe_str (nomark _)) (pss_cons (ps_setLc (i := 4) (own := [("_law_ray_here", 5)]) (g := (gName 5)) (tt := tYes) (by rfl) sc_law_due.nd rfl rfl (sw_true rfl rfl rfl (by decide +kernel)) (pi_listK (K := K) rfl (pv 1 rfl (Or.inl lk__law_due__law_rays))) (blkOk_by (own := [("_law_ray_here", 5)]) (N := ["_law_train_here", "_law_rays", "_law_found", "_law_place", "_law_heights", "_law_ray_here"]) (sc := defScope s_law_due) (by decide +kernel)) (fun _ _ _ _ _ => (pg_name (i := 5) sc_law_due.nd rfl (Or.inl rfl))) (fun _ _ _ _ _ => pts_nil) (fun _ _ _ _ _ => (pe_ix (ix_seqK (K := K) rfl) (pe_c h_law_out (hr.mono (by decide)) (by rfl) (pa_cons (pe_slice (sl_listK (K := K) rfl) (pv 0) po_none (po_some (pv 3))) (pa_cons (pv 5) pa_nil))) pe_int (fun _ _ => rfl)))) (pss_cons (ps_if (pt_cmpR op_notNo (pe_ix (ix_seqK (K := K) rfl) (pe_ix (ix_seqK (K := K) rfl) (pv 0 rfl (Or.inr (Or.inl lk__law_due__law_train_here))) (pv 3 rfl (Or.inr (Or.inl lk__law_due__law_place))) (fun _ _ => rfl)) pe_int (fun _ _ => rfl)) pe_non (nomark _)) (pss_one (ps_expr (pe_appK (K := K) rfl (pv 2 rfl (Or.inl lk__law_due__law_found)) (pe_tup (pa_cons (pe_tup (pa_cons (pv 3 rfl (Or.inr (Or.inl lk__law_due__law_place))) (pa_cons pe_str pa_nil))) (pa_cons (pe_c h_law_sub (hr.mono (by decide)) gk__law_due__law_sub (pa_cons (pe_c h_law_least (hr.mono (by decide)) gk__law_due__law_least (pa_cons (pv 4 rfl (Or.inl lk__law_due__law_heights)) pa_nil)) (pa_cons (pe_ix (ix_seqK (K := K) rfl) (pe_ix (ix_seqK (K := K) rfl) (pv 0 rfl (Or.inr (Or.inl lk__law_due__law_train_here))) (pv 3 rfl (Or.inr (Or.inl lk__law_due__law_place))) (fun _ _ => rfl)) pe_int (fun _ _ => rfl)) pa_nil))) pa_nil)))))) pss_nil) (pss_one (ps_if (pt_cmpR op_notNo (pe_ix (ix_seqK (K := K) rfl) (pe_ix (ix_seqK (K := K) rfl) (pv 0 rfl (Or.inr (Or.inl lk__law_due__law_train_here))) (pv 3 rfl (Or.inr (Or.inl lk__law_due__law_place))) (fun _ _ => rfl)) pe_int (fun _ _ => rfl)) pe_non (nomark _)) (pss_one (ps_expr (pe_appK (K := K) rfl (pv 2 rfl (Or.inl lk__law_due__law_found)) (pe_tup (pa_cons (pe_tup (pa_cons (pv 3 rfl (Or.inr (Or.inl lk__law_due__law_place))) (pa_cons pe_str pa_nil))) (pa_cons (pe_c h_law_sub (hr.mono (by decide)) gk__law_due__law_sub (pa_cons (pe_ix (ix_seqK (K := K) rfl) (pe_ix (ix_seqK (K := K) rfl) (pv 0 rfl (Or.inr (Or.inl lk__law_due__law_train_here))) (pv 3 rfl (Or.inr (Or.inl lk__law_due__law_place))) (fun _ _ => rfl)) pe_int (fun _ _ => rfl)) (pa_cons (pe_c h_law_greatest (hr.mono (by decide)) gk__law_due__law_greatest (pa_cons (pv 4 rfl (Or.inl lk__law_due__law_heights)) pa_nil)) pa_nil))) pa_nil)))))) pss_nil)))) pss_nil))) (pss_one (ps_ret (pv 2 rfl (Or.inl lk__law_due__law_found)))))), fun vs ds r G Q sG hv hR q => ?_⟩
    obtain ⟨t, rs, rfl, ht, hne, hrl, hrb, rfl⟩ := hR
    obtain ⟨v, vr, rfl, h1, h2⟩ := hv.two
    refine ⟨(Nat.zero_le _), fun l hl => ?_⟩
    have gl : G l = none := fresh_back sG hl
    have x1 : Ext G H G (upd H l (.lst [])) := (Ext.refl sG).mut hl gl
    have ht100 : t.length ≤ 8 := ht.1
    have hlen : (t.map El.dat).length = t.length := List.length_map ..
    let dd : Edge → PyData := fun e => told1 (e, due1 t rs e)
    have qd : ∀ v G' H', Ext G H G' H' → Is K G' v (.list ((edges t).map dd)) → Q v H' := fun v G' H' x h => q v G' H' x (by
      show Is K G' v (.list (((edges t).map fun e => (e, leastR (rs.map (clr t e)))).map told1))
      rw [List.map_map]
      have : dd = told1 ∘ fun e => (e, leastR (rs.map (clr t e))) := by funext e; show told1 (e, due1 t rs e) = told1 (e, _); rw [due_told]
      rw [← this]; exact h)
    change tSeq _ _ _ [some v, some vr, some (.ref l), none, none, none] _
    refine q_forR (n := t.length) ((evd_len (evd_var rfl h1)).to (by rw [hlen])) (by omega) x1.sub fun G2 H2 e2 => ⟨fun i σ' G' H' => Ext G H G' H' ∧ Ex G2 G' ∧ G' l = none ∧ ∃ acc u1 u2 u3, σ' = [some v, some vr, some (.ref l), u1, u2, u3] ∧ H' l = some (.lst acc) ∧ acc.length ≤ 2 * i ∧ IsAll K G' acc ((edges (t.take i)).map dd),
      ⟨x1.trans e2, Ex.refl _, e2.unseen gl upd_same, [], none, none, none, rfl, e2.h _ _ upd_same, Nat.le_refl _, .nil⟩, ?_, ?_⟩
    · rintro i σ' G' H' hit ⟨e, s2, gl', acc, u1, u2, u3, rfl, hacc, hal, hall⟩
      have hel : t[i]? = some t[i] := List.getElem?_eq_getElem hit
      generalize t[i] = el at hel
      have hE := edges_take hel
      have gel := (ht.2 el (List.mem_of_getElem? hel)).small
      have hz : acc.length < 90000 := by omega
      have gt : Is K G' v (traind t) := h1.mono ((x1.trans e2).g.trans s2)
      have gr : Is K G' vr (.list (rs.map rayd)) := h2.mono ((x1.trans e2).g.trans s2)
      change tIfS _ _ _ _ [some v, some vr, some (.ref l), some (.int (i : Int)), u2, u3] H'
      have eu : ∀ {σ : L2.St} {G9}, σ[0]? = some (some v) → σ[3]? = some (some (.int (i : Int))) → Ex G' G9 → EvD K (tOp (rIx K) (tVar 0) (tVar 3)) σ G9 el.dat := fun hs ht x => evd_ixL (evd_var hs (gt.mono x)) (evd_var ht (.int (i : Int))) (atI_nat (by rw [List.getElem?_map, hel]; rfl))
      have ei : ∀ {σ : L2.St} {G9}, σ[3]? = some (some (.int (i : Int))) → EvD K (tVar 3) σ G9 (.int (i : Int)) := fun hs => evd_var hs (.int _)
      refine si (eb_kind (eu rfl rfl (Ex.refl _))) e.sub fun G4 H4 e4 => ?_
      have x4 := e.trans e4
      have l4 := e4.h _ _ hacc
      have gl4 := e4.unseen gl' hacc
      cases el with
      | gap _ => exact ite_no (decide_eq_false n_gs) ⟨G4, x4, s2.trans e4.g, gl4, acc, _, _, _, rfl, l4, by omega, by rw [hE, show edgesAt i (.gap _) = [] from rfl, List.append_nil]; exact hall.mono e4.g⟩
      | lens _ _ => exact ite_no (decide_eq_false n_ls) ⟨G4, x4, s2.trans e4.g, gl4, acc, _, _, _, rfl, l4, by omega, by rw [hE, show edgesAt i (.lens _ _) = [] from rfl, List.append_nil]; exact hall.mono e4.g⟩
      | prism _ => exact ite_no (decide_eq_false n_ps) ⟨G4, x4, s2.trans e4.g, gl4, acc, _, _, _, rfl, l4, by omega, by rw [hE, show edgesAt i (.prism _) = [] from rfl, List.append_nil]; exact hall.mono e4.g⟩
      | afocal _ => exact ite_no (decide_eq_false n_as) ⟨G4, x4, s2.trans e4.g, gl4, acc, _, _, _, rfl, l4, by omega, by rw [hE, show edgesAt i (.afocal _) = [] from rfl, List.append_nil]; exact hall.mono e4.g⟩
      | stop lo hi =>
        refine ite_yes (decide_eq_true rfl) ?_
        let hs : List Rat := rs.map fun r => (out (t.take i) r).1
        have hsB : ∀ x ∈ hs, B 1600 1600 x := fun x hx => by
          obtain ⟨r, hr, rfl⟩ := of_map hx
          exact (out_bits (ht.take i) (hrb r hr)).1
        have hsl : hs.length ≤ 50000 := by show (rs.map _).length ≤ _; rw [List.length_map]; omega
        have hsn : hs ≠ [] := fun h => hne (List.map_eq_nil_iff.mp h)
        obtain ⟨mn, hmn⟩ : ∃ x, leastR hs = some x := by
          cases h : leastR hs with
          | none => exact absurd (least_nil.mp h) hsn
          | some x => exact ⟨x, rfl⟩
        obtain ⟨mx, hmx⟩ : ∃ x, greatestR hs = some x := by
          cases h : greatestR hs with
          | none => exact absurd (greatest_nil.mp h) hsn
          | some x => exact ⟨x, rfl⟩
        have bmn := hsB mn (least_some hmn).1
        have bmx := hsB mx (greatest_some hmx).1
        refine qa (evd_lcR (xs := rs) rayd (fun r => fr (out (t.take i) r).1) (evd_var rfl (gr.mono e4.g)) (by omega) (fun _ => rfl) ?_) e4.sub fun v4 G5 H5 e5 g5 => ?_
        · intro r z G9 s9 hr hz9
          have tk := evd_cut (K := K) (evd_var (σ := (wipe [some v, some vr, some (.ref l), some (.int (i : Int)), u2, u3] [5]).set 5 (some z)) (i := 0) rfl (gt.mono (e4.g.trans s9))) (evd_var (v := .int (i : Int)) (i := 3) rfl (.int (i : Int))) (by rw [hlen]; omega)
          rw [← List.map_take] at tk
          exact evd_ixT (evd_call (es_cons tk (es_cons (evd_var rfl hz9) es_nil)) (R := ROut) ⟨_, r, rfl, ht.take i, hrb r hr, rfl⟩) evd_int rfl
        have g5' : Is K G5 v4 (.list (hs.map fr)) := by show Is K G5 v4 (.list ((rs.map fun r => (out (t.take i) r).1).map fr)); rw [List.map_map]; exact g5
        change tSeq _ _ _ [some v, some vr, some (.ref l), some (.int (i : Int)), some v4, u3] H5
        have x5 := x4.trans e5
        have l5 := e5.h _ _ l4
        have gl5 := e5.unseen gl4 l4
        have s5 : Ex G' G5 := (e4.trans e5).g
        have emn : ∀ {σ : L2.St} {G9}, σ[4]? = some (some v4) → Ex G5 G9 → EvD K (tCall (spR K RLeast) [] E0 (tCons (tVar 4) tNil)) σ G9 (fr mn) := fun h4 x => (evd_call (es_cons (evd_var h4 (g5'.mono x)) es_nil) (R := RLeast) ⟨hs, rfl, hsl, fun x hx => (hsB x hx).sz, rfl⟩).to (by rw [hmn]; rfl)
        have emx : ∀ {σ : L2.St} {G9}, σ[4]? = some (some v4) → Ex G5 G9 → EvD K (tCall (spR K RGreatest) [] E0 (tCons (tVar 4) tNil)) σ G9 (fr mx) := fun h4 x => (evd_call (es_cons (evd_var h4 (g5'.mono x)) es_nil) (R := RGreatest) ⟨hs, rfl, hsl, fun x hx => (hsB x hx).sz, rfl⟩).to (by rw [hmx]; rfl)
        -- the upper one, behind whatever stands
        have up : ∀ (G6 H6 : Hp) (acc6 : List V), Ext G H G6 H6 → Ex G5 G6 → G6 l = none → H6 l = some (.lst acc6) → acc6.length ≤ 2 * i + 1 → IsAll K G6 acc6 (((edges (t.take i)) ++ (lo.toList.map fun x => (i, false, x))).map dd) →
            tIfS (tTest (tOp rNotNo (tOp (rIx K) (tOp (rIx K) (tVar 0) (tVar 3)) (tC (.int 2))) (tC .non))) (tDrop (tBM K "list" rAppend (tVar 2) (tCons (tTup (tCons (tTup (tCons (tVar 3) (tCons (tC (.str "upper")) tNil))) (tCons (tCall (spR K RSub) [] E0 (tCons (tOp (rIx K) (tOp (rIx K) (tVar 0) (tVar 3)) (tC (.int 2))) (tCons (tCall (spR K RGreatest) [] E0 (tCons (tVar 4) tNil)) tNil))) tNil))) tNil))) tNext
              { nx := fun σ3 H3 => ∃ G4, Ext G H G4 H3 ∧ Ex G2 G4 ∧ G4 l = none ∧ ∃ acc u1 u2 u3, σ3 = [some v, some vr, some (.ref l), u1, u2, u3] ∧ H3 l = some (.lst acc) ∧ acc.length ≤ 2 * (i + 1) ∧ IsAll K G4 acc ((edges (t.take (i + 1))).map dd), rt := Q } [some v, some vr, some (.ref l), some (.int (i : Int)), some v4, u3] H6 := by
          intro G6 H6 acc6 x6 s6 gl6 l6 z6 a6
          refine si (eb_val (evd_notN (evd_ixT (eu rfl rfl (s5.trans s6)) evd_int rfl))) x6.sub fun G7 H7 e7 => ?_
          have l7 := e7.h _ _ l6
          have g7 := e7.unseen gl6 l6
          have s27 : Ex G2 G7 := ((s2.trans s5).trans s6).trans e7.g
          cases hi with
          | none =>
            refine ite_no rfl ⟨G7, x6.trans e7, s27, g7, acc6, _, _, _, rfl, l7, by omega, ?_⟩
            rw [hE]
            show IsAll K G7 acc6 ((edges (t.take i) ++ ((lo.toList.map fun x => (i, false, x)) ++ [])).map dd)
            rw [List.append_nil]
            exact a6.mono e7.g
          | some y =>
            refine ite_yes rfl ?_
            have s7 := s6.trans e7.g
            refine s_app (d := dd (i, true, y)) rfl l7 (by omega) ((evd_tup (es_cons (evd_tup (es_cons (ei rfl) (es_cons evd_str es_nil))) (es_cons (ev_sub (evd_ixT (eu rfl rfl (s5.trans s7)) evd_int rfl) (emx rfl s7) (gel.2 y rfl).b63.sz bmx.sz) es_nil))).to ?_) e7.sub fun z G8 H8 e8 l8 h8 => ?_
            · show _ = told1 ((i, true, y), (greatestR hs).map fun x => y - x)
              rw [hmx]; rfl
            have g8 := e8.unseen g7 l7
            refine ⟨G8, (((x6.trans e7).trans e8).mut hl g8), s27.trans e8.g, g8, acc6 ++ [z], _, _, _, rfl, upd_same, by rw [List.length_append, List.length_singleton]; omega, ?_⟩
            rw [hE]
            show IsAll K G8 (acc6 ++ [z]) ((edges (t.take i) ++ ((lo.toList.map fun x => (i, false, x)) ++ [(i, true, y)])).map dd)
            rw [← List.append_assoc, List.map_append]
            exact (a6.mono (e7.trans e8).g).append (.cons h8 .nil)
        refine qi (eb_val (evd_notN (evd_ixT (eu rfl rfl s5) evd_int rfl))) e5.sub fun G6 H6 e6 => ?_
        have l6 := e6.h _ _ l5
        have g6 := e6.unseen gl5 l5
        have all6 := hall.mono ((e4.trans e5).trans e6).g
        cases lo with
        | none =>
          refine ite_no rfl ?_
          refine up G6 H6 acc (x5.trans e6) e6.g g6 l6 (by omega) ?_
          show IsAll K G6 acc ((edges (t.take i) ++ []).map dd)
          rw [List.append_nil]
          exact all6
        | some y =>
          refine ite_yes rfl ?_
          refine s_app (d := dd (i, false, y)) rfl l6 (by omega) ((evd_tup (es_cons (evd_tup (es_cons (ei rfl) (es_cons evd_str es_nil))) (es_cons (ev_sub (emn rfl e6.g) (evd_ixT (eu rfl rfl (s5.trans e6.g)) evd_int rfl) bmn.sz (gel.1 y rfl).b63.sz) es_nil))).to ?_) e6.sub fun z G8 H8 e8 l8 h8 => ?_
          · show _ = told1 ((i, false, y), (leastR hs).map fun x => x - y)
            rw [hmn]; rfl
          have g8 := e8.unseen g6 l6
          refine up G8 _ (acc ++ [z]) (((x5.trans e6).trans e8).mut hl g8) (e6.trans e8).g g8 upd_same (by rw [List.length_append, List.length_singleton]; omega) ?_
          show IsAll K G8 (acc ++ [z]) ((edges (t.take i) ++ [(i, false, y)]).map dd)
          rw [List.map_append]
          exact (all6.mono e8.g).append (.cons h8 .nil)
    · rintro σ' G' H' ⟨e, s2, gl', acc, u1, u2, u3, rfl, hacc, hal, hall⟩
      rw [List.take_length] at hall
      exact ⟨.ref l, rfl, qd _ (upd G' l (.lst acc)) H' (e.show hl gl' hacc) (.lst upd_same (hall.mono (Ex.new gl')))⟩
end
end Rt
namespace Rt
open PySem PySem.Spec PyProof.Rows L2 Evl
/-! ### a small factor -/
def rMulS : R2 := rI CMul fun i j => .int (i * j)
theorem op_mulS {X : Cx} : OpR X (binaryOp .Mult) rMulS := op_mul
section
variable {K : PySem.W.Frag} {G : Hp} {σ : L2.St} {ta tb : TE}
theorem evd_mulS {i j : Int} (ha : EvD K ta σ G (.int i)) (hb : EvD K tb σ G (.int j)) (hc : CMul i j) : EvD K (tOp rMulS ta tb) σ G (.int (i * j)) := evd_ii ha hb (fun _ => .int _) fun H Q q => ⟨i, j, rfl, rfl, hc, q⟩
end
/-! ### the box: a list of a list of ints and a place -/
structure Bx where
  b : Addr
  r : Addr
  row : List Int
structure Bx.At (B : Bx) (H : Hp) : Prop where
  box : ∃ n : Nat, H B.b = some (.lst [.ref B.r, .int (n : Int)])
  row : H B.r = some (.lst (B.row.map V.int))
  ne : B.r ≠ B.b
structure Bs (B : Bx) (G H : Hp) : Prop where
  sub : Ex G H
  un : G B.b = none
  at_ : B.At H
/-- from G within H to G' within H': the box may go on, all else stays -/
structure Mt (B : Bx) (G H G' H' : Hp) : Prop where
  st : Bs B G H
  en : Bs B G' H'
  g : Ex G G'
  h : ∀ a o, a ≠ B.b → H a = some o → H' a = some o
  new : ∀ a, G a = none → G' a ≠ none → H a = none
theorem Bx.At.ex {B : Bx} {H H' : Hp} (h : B.At H) (e : Ex H H') : B.At H' := ⟨h.box.imp fun _ x => e _ _ x, e _ _ h.row, h.ne⟩
theorem Bx.At.some {B : Bx} {H : Hp} (h : B.At H) : ∃ o, H B.b = some o := h.box.elim fun _ x => ⟨_, x⟩
section
variable {B : Bx} {G H G' H' G2 H2 : Hp}
theorem Mt.refl (s : Bs B G H) : Mt B G H G H := ⟨s, s, Ex.refl _, fun _ _ _ h => h, fun a h1 h2 => absurd h1 h2⟩
theorem Ext.mt (e : Ext G H G' H') (s : Bs B G H) : Mt B G H G' H' := by
  obtain ⟨o, ho⟩ := s.at_.some
  exact ⟨s, ⟨e.sub, e.unseen s.un ho, s.at_.ex e.h⟩, e.g, fun a o _ h => e.h a o h, e.new⟩
theorem Mt.trans (a : Mt B G H G' H') (b : Mt B G' H' G2 H2) : Mt B G H G2 H2 :=
  ⟨a.st, b.en, a.g.trans b.g, fun x o n h => b.h x o n (a.h x o n h), fun x h1 h2 => by
    cases q : G' x with
    | some o => exact a.new x h1 (by rw [q]; exact fun z => nomatch z)
    | none =>
      have h3 := b.new x q h2
      cases q2 : H x with
      | none => rfl
      | some o =>
        by_cases hx : x = B.b
        · obtain ⟨u, hu⟩ := b.st.at_.some
          rw [hx, hu] at h3; cases h3
        · rw [a.h x o hx q2] at h3; cases h3⟩
/-- a new object that is not seen is made or changed -/
theorem Mt.mut {p : Addr} {o : HO} (t : Mt B G H G' H') (h0 : H p = none) (hg : G' p = none) : Mt B G H G' (upd H' p o) := by
  obtain ⟨u, hu⟩ := t.st.at_.some
  have nb : B.b ≠ p := fun e => by rw [← e, hu] at h0; cases h0
  have nr : B.r ≠ p := fun e => by rw [← e, t.st.at_.row] at h0; cases h0
  refine ⟨t.st, ⟨fun b u e => ?_, t.en.un, ?_⟩, t.g, fun a o n h => ?_, t.new⟩
  · have : b ≠ p := fun q => by rw [q, hg] at e; cases e
    rw [upd_ne this]; exact t.en.sub _ _ e
  · refine ⟨t.en.at_.box.imp fun n h => by rw [upd_ne nb]; exact h, by rw [upd_ne nr]; exact t.en.at_.row, t.en.at_.ne⟩
  · have : a ≠ p := fun q => by rw [q, h0] at h; cases h
    rw [upd_ne this]; exact t.h a o n h
theorem Mt.show {p : Addr} {o : HO} (t : Mt B G H G' H') (h0 : H p = none) (hg : G' p = none) (h : H' p = some o) : Mt B G H (upd G' p o) H' := by
  obtain ⟨u, hu⟩ := t.st.at_.some
  have nb : B.b ≠ p := fun e => by rw [← e, hu] at h0; cases h0
  refine ⟨t.st, ⟨fun b u e => ?_, by rw [upd_ne nb]; exact t.en.un, t.en.at_⟩, t.g.trans (Ex.new hg), t.h, fun a h1 h2 => ?_⟩
  · by_cases hb : b = p
    · subst hb; rw [upd_same] at e; rw [h]; exact e
    · rw [upd_ne hb] at e; exact t.en.sub _ _ e
  · by_cases ha : a = p
    · subst ha; exact h0
    · rw [upd_ne ha] at h2; exact t.new a h1 h2
theorem Mt.unseen {p : Addr} {o : HO} (t : Mt B G H G' H') (hg : G p = none) (h : H p = some o) : G' p = none := by
  cases q : G' p with
  | none => rfl
  | some u =>
    have := t.new p hg (by rw [q]; exact fun z => nomatch z)
    rw [h] at this; cases this
/-- the box goes on -/
theorem Mt.step {m : Nat} (s : Bs B G H) : Mt B G H G (upd H B.b (.lst [.ref B.r, .int (m : Int)])) := by
  refine ⟨s, ⟨fun b u e => ?_, s.un, ⟨⟨m, upd_same⟩, by rw [upd_ne s.at_.ne]; exact s.at_.row, s.at_.ne⟩⟩, Ex.refl _, fun a o n h => by rw [upd_ne n]; exact h, fun a h1 h2 => absurd h1 h2⟩
  have : b ≠ B.b := fun q => by rw [q, s.un] at e; cases e
  rw [upd_ne this]; exact s.sub _ _ e
end
/-! ### what an expression is worth that may draw -/
abbrev Ps := PyData → Prop
def EvM (K : PySem.W.Frag) (B : Bx) (te : TE) (σ : L2.St) (G : Hp) (R : Ps) : Prop := ∀ G1 H1, Ex G G1 → Bs B G1 H1 → ∀ Q : VK, (∀ v d G2 H2, Mt B G1 H1 G2 H2 → Is K G2 v d → R d → Q v H2) → te σ H1 Q
def EvMs (K : PySem.W.Frag) (B : Bx) (ta : TA) (σ : L2.St) (G : Hp) (R : List PyData → Prop) : Prop := ∀ G1 H1, Ex G G1 → Bs B G1 H1 → ∀ Q : List V → Hp → Prop, (∀ vs ds G2 H2, Mt B G1 H1 G2 H2 → IsAll K G2 vs ds → R ds → Q vs H2) → ta σ H1 Q
def EvMB (B : Bx) (t : TT) (σ : L2.St) (G : Hp) : Prop := ∀ G1 H1, Ex G G1 → Bs B G1 H1 → ∀ Q : Bool → Hp → Prop, (∀ b G2 H2, Mt B G1 H1 G2 H2 → Q b H2) → t σ H1 Q
section
variable {K : PySem.W.Frag} {B : Bx} {G G' H : Hp} {d : PyData} {ds : List PyData} {σ : L2.St} {te ta tb : TE} {tl tr : TA} {t : TT} {R R' Ra Rb : Ps} {Rs Rt : List PyData → Prop} {D : Ends} {tz : TS}
theorem EvD.m (h : EvD K te σ G d) : EvM K B te σ G (· = d) := fun G1 H1 e1 s Q q => h G1 H1 e1 s.sub Q fun v G2 H2 e2 h2 => q v d G2 H2 (e2.mt s) h2 rfl
theorem EvDs.m (h : EvDs K tl σ G ds) : EvMs K B tl σ G (· = ds) := fun G1 H1 e1 s Q q => h G1 H1 e1 s.sub Q fun v G2 H2 e2 h2 => q v ds G2 H2 (e2.mt s) h2 rfl
theorem EvM.imp (h : EvM K B te σ G R) (k : ∀ d, R d → R' d) : EvM K B te σ G R' := fun G1 H1 e1 s Q q => h G1 H1 e1 s Q fun v d G2 H2 e2 h2 r => q v d G2 H2 e2 h2 (k d r)
theorem EvM.mono (e : Ex G G') (h : EvM K B te σ G R) : EvM K B te σ G' R := fun G1 H1 e1 => h G1 H1 (e.trans e1)
theorem ems_nil : EvMs K B tNil σ G (· = []) := es_nil.m
theorem ems_cons (h : EvM K B ta σ G R) (hr : EvMs K B tr σ G Rs) : EvMs K B (tCons ta tr) σ G (fun l => ∃ d ds, l = d :: ds ∧ R d ∧ Rs ds) := fun G1 H1 e1 s Q q =>
  h G1 H1 e1 s _ fun v d G2 H2 e2 h2 r2 => hr G2 H2 (e1.trans e2.g) e2.en _ fun vs ds G3 H3 e3 h3 r3 => q (v :: vs) (d :: ds) G3 H3 (e2.trans e3) (.cons (h2.mono e3.g) h3) ⟨d, ds, rfl, r2, r3⟩
theorem em_tup (h : EvMs K B tl σ G Rs) (hl : ∀ ds, Rs ds → ds.length ≤ 100000) : EvM K B (tTup tl) σ G (fun d => ∃ ds, d = .tuple ds ∧ Rs ds) := fun G1 H1 e1 s Q q =>
  h G1 H1 e1 s _ fun vs ds G2 H2 e2 h2 r2 => ⟨sz_of (by rw [h2.length]; exact hl ds r2), fun p hp => q _ _ _ _ (e2.trans ((Ext.upd e2.en.sub hp).mt e2.en)) (.tup (SqT.of upd_same) (h2.mono (Ext.upd e2.en.sub hp).g)) ⟨ds, rfl, r2⟩⟩
theorem em_lst (h : EvMs K B tl σ G Rs) (hl : ∀ ds, Rs ds → ds.length ≤ 100000) : EvM K B (tLst tl) σ G (fun d => ∃ ds, d = .list ds ∧ Rs ds) := fun G1 H1 e1 s Q q =>
  h G1 H1 e1 s _ fun vs ds G2 H2 e2 h2 r2 => ⟨sz_of (by rw [h2.length]; exact hl ds r2), fun p hp => q _ _ _ _ (e2.trans ((Ext.upd e2.en.sub hp).mt e2.en)) (.lst upd_same (h2.mono (Ext.upd e2.en.sub hp).g)) ⟨ds, rfl, r2⟩⟩
/-- a call of a def that changes nothing -/
theorem em_call {RR : Rl} {E : XK} (h : EvMs K B tl σ G Rs) (k : ∀ ds, Rs ds → ∃ r, RR ds r ∧ R r) : EvM K B (tCall (spR K RR) [] E tl) σ G R := fun G1 H1 e1 s Q q =>
  h G1 H1 e1 s _ fun vs ds G2 H2 e2 h2 r2 => by
    obtain ⟨r, hr, hR⟩ := k ds r2
    exact ⟨ds, r, G2, e2.en.sub, by rw [List.append_nil]; exact h2, hr, fun v G3 H3 e3 h3 => q v r G3 H3 (e2.trans (e3.mt e2.en)) h3 hR⟩
/-- two ints -/
theorem em_ii {r : R2} {Pa Pb : Int → Prop} {f : Int → Int → PyData} (z : Int → Int → V) (ha : EvM K B ta σ G (fun d => ∃ i, d = .int i ∧ Pa i)) (hb : EvM K B tb σ G (fun d => ∃ i, d = .int i ∧ Pb i)) (hz : ∀ i j G, Is K G (z i j) (f i j))
    (hr : ∀ i j H (Q : VK), Pa i → Pb j → Q (z i j) H → r (.int i) (.int j) H Q) : EvM K B (tOp r ta tb) σ G (fun d => ∃ i j, d = f i j ∧ Pa i ∧ Pb j) := fun G1 H1 e1 s Q q =>
  ha G1 H1 e1 s _ fun x a G2 H2 e2 h2 ⟨i, ei, pi⟩ => hb G2 H2 (e1.trans e2.g) e2.en _ fun y b G3 H3 e3 h3 ⟨j, ej, pj⟩ => by
    subst ei ej
    obtain rfl := h2.intIn
    obtain rfl := h3.intIn
    exact hr i j _ _ pi pj (q _ _ _ _ (e2.trans e3) (hz i j G3) ⟨i, j, rfl, pi, pj⟩)
/-- a list's item at a drawn place -/
theorem em_ixL {Rs : List PyData → Prop} {Pb : Int → Prop} (ha : EvM K B ta σ G (fun d => ∃ ds, d = .list ds ∧ Rs ds)) (hb : EvM K B tb σ G (fun d => ∃ i, d = .int i ∧ Pb i)) (k : ∀ ds i, Rs ds → Pb i → ∃ d, atI ds i = some d ∧ R d) : EvM K B (tOp (rIx K) ta tb) σ G R := fun G1 H1 e1 s Q q =>
  ha G1 H1 e1 s _ fun x a G2 H2 e2 h2 ⟨ds, ed, pd⟩ => hb G2 H2 (e1.trans e2.g) e2.en _ fun y b G3 H3 e3 h3 ⟨j, ej, pj⟩ => by
    subst ed ej
    obtain ⟨d, hd, hR⟩ := k ds j pd pj
    obtain ⟨a, xs, rfl, hx, hs⟩ := (h2.mono e3.g).lstIn
    obtain rfl := h3.intIn
    obtain ⟨y, ey, hy⟩ := atI_is hs hd
    exact .inl ⟨a, xs, j, y, rfl, rfl, SqL.of (e3.en.sub _ _ hx), ey, q y d G3 H3 (e2.trans e3) hy hR⟩
/-! ### statements -/
theorem mr (h : EvM K B te σ G R) (s : Bs B G H) (k : ∀ v d G' H', Mt B G H G' H' → Is K G' v d → R d → D.rt v H') : tRet te D σ H := h G H (Ex.refl _) s _ k
theorem mqa {i : Nat} (h : EvM K B te σ G R) (s : Bs B G H) (k : ∀ v d G' H', Mt B G H G' H' → Is K G' v d → R d → tz D (σ.set i (some v)) H') : tSeq (tAsg te (gName i)) tz D σ H := h G H (Ex.refl _) s _ k
theorem msa {i : Nat} (h : EvM K B te σ G R) (s : Bs B G H) (k : ∀ v d G' H', Mt B G H G' H' → Is K G' v d → R d → D.nx (σ.set i (some v)) H') : tAsg te (gName i) D σ H := h G H (Ex.refl _) s _ k
/-- a test of a drawn int -/
theorem emb_ii {r : R2} {Pa Pb : Int → Prop} {f : Int → Int → Bool} (ha : EvM K B ta σ G (fun d => ∃ i, d = .int i ∧ Pa i)) (hb : EvM K B tb σ G (fun d => ∃ i, d = .int i ∧ Pb i))
    (hr : ∀ i j H (Q : VK), Q (.bl (f i j)) H → r (.int i) (.int j) H Q) : EvMB B (tTest (tOp r ta tb)) σ G := fun G1 H1 e1 s Q q =>
  ha G1 H1 e1 s _ fun x a G2 H2 e2 h2 ⟨i, ei, pi⟩ => hb G2 H2 (e1.trans e2.g) e2.en _ fun y b G3 H3 e3 h3 ⟨j, ej, pj⟩ => by
    subst ei ej
    obtain rfl := h2.intIn
    obtain rfl := h3.intIn
    exact hr i j _ _ ⟨_, rfl, q _ _ _ (e2.trans e3)⟩
/-! ### comprehensions -/
/-- over range(n), n drawn -/
theorem em_lcR {tl : TE} {j : Nat} {vs : List Nat} {Pn : Nat → Prop} (h : EvM K B tl σ G (fun d => ∃ n : Nat, d = .int (n : Int) ∧ Pn n)) (hz : ∀ n, Pn n → n ≤ 10000) (hw : ∀ x, wipe ((wipe σ vs).set j (some x)) vs = wipe σ vs)
    (he : ∀ (v : V) G1, Ex G G1 → EvM K B te ((wipe σ vs).set j (some v)) G1 R) :
    EvM K B (tLc (iRng1 (tCons tl tNil)) (gName j) tYes te vs) σ G (fun d => ∃ ds, d = .list ds ∧ Pn ds.length ∧ ∀ x ∈ ds, R x) := fun G1 H1 e1 s Q q => h G1 H1 e1 s _ fun v d G2 H2 e2 h2 ⟨n, en, pn⟩ => by
  subst en
  obtain rfl := h2.intIn
  have hn := hz n pn
  refine ⟨(n : Int), rfl, by omega, by omega, fun D hD => ?_⟩
  rw [Int.toNat_natCast]
  have gD : G2 D = none := fresh_back e2.en.sub hD
  refine lc_range (lo := 0) (n := n) (fun i H' => ∃ G' acc ds, Mt B G2 H2 G' H' ∧ G' D = none ∧ H' D = some (.lst acc) ∧ ds.length = i ∧ IsAll K G' acc ds ∧ ∀ x ∈ ds, R x) ?_ ?_ ?_
  · exact ⟨G2, [], [], (Mt.refl e2.en).mut hD gD, gD, upd_same, rfl, .nil, fun x hx => nomatch hx⟩
  · intro i H' hi ⟨G', acc, ds, ex, gD', hacc, hl, hall, hR⟩
    refine ⟨hw _, ?_⟩
    dsimp only [tYes]
    rw [if_pos rfl]
    refine he _ G' ((e1.trans e2.g).trans ex.g) G' H' (Ex.refl _) ex.en _ fun u d G4 H4 e4 h4 r4 => ?_
    have nD : D ≠ B.b := fun e => by
      obtain ⟨o, ho⟩ := e2.en.at_.some
      rw [e, ho] at hD; cases hD
    have a4 := e4.h _ _ nD hacc
    have g4 : G4 D = none := e4.unseen gD' hacc
    refine ⟨acc, a4, sz_lt (by rw [hall.length]; omega), G4, acc ++ [u], ds ++ [d], (ex.trans e4).mut hD g4, g4, upd_same, by rw [List.length_append, List.length_singleton]; omega, (hall.mono e4.g).append (.cons h4 .nil), fun x hx => ?_⟩
    rcases of_append hx with hx | hx
    · exact hR x hx
    · rw [of_one hx]; exact r4
  · intro H' ⟨G', acc, ds, ex, gD', hacc, hl, hall, hR⟩
    exact q _ _ _ _ (e2.trans (ex.show hD gD' hacc)) (.lst upd_same (hall.mono (Ex.new gD'))) ⟨ds, rfl, by rw [hl]; exact pn, hR⟩
/-- some items of a list, as drawn -/
theorem em_lcF {tl : TE} {j : Nat} {vs : List Nat} {α : Type} {xs : List α} (d : α → PyData) (h : EvD K tl σ G (.list (xs.map d))) (hz : xs.length ≤ 10000) (hw : ∀ x, wipe ((wipe σ vs).set j (some x)) vs = wipe σ vs) (hj : ∀ x, ((wipe σ vs).set j (some x))[j]? = some (some x))
    (ht : ∀ (v : V) G1, Ex G G1 → EvMB B t ((wipe σ vs).set j (some v)) G1) :
    EvM K B (tLc (iList K tl) (gName j) t (tVar j) vs) σ G (fun r => ∃ ys : List α, r = .list (ys.map d) ∧ ys.length ≤ xs.length ∧ ∀ y ∈ ys, y ∈ xs) := fun G1 H1 e1 s Q q => h.m G1 H1 e1 s _ fun v dd G2 H2 e2 h2 ed => by
  subst ed
  obtain ⟨a, zs, rfl, hx, hs⟩ := h2.lstIn
  refine ⟨a, rfl, ⟨zs, SqL.of (e2.en.sub _ _ hx)⟩, fun D hD => ?_⟩
  have gD : G2 D = none := fresh_back e2.en.sub hD
  have hlen : zs.length = xs.length := by rw [hs.length, List.length_map]
  refine lc_list (K := K) (a := a) (xs := zs) (fun i H' => ∃ (G' : Hp) (acc : List V) (ys : List α), Mt B G2 H2 G' H' ∧ G' D = none ∧ H' D = some (.lst acc) ∧ ys.length ≤ i ∧ IsAll K G' acc (ys.map d) ∧ ∀ y ∈ ys, y ∈ xs) ?_ (fun i H' _ ⟨G', _, _, e, _⟩ => SqL.of (e.en.sub _ _ (e.g _ _ hx))) ?_ ?_
  · exact ⟨G2, [], [], (Mt.refl e2.en).mut hD gD, gD, upd_same, Nat.le_refl _, .nil, fun x hx => nomatch hx⟩
  · intro m x H' hm ⟨G', acc, ys, ex, gD', hacc, hl, hall, hR⟩
    obtain ⟨d', hd, hxd⟩ := (hs.mono ex.g).at hm
    rw [List.getElem?_map] at hd
    cases hp : xs[m]? with
    | none => rw [hp] at hd; cases hd
    | some p =>
      rw [hp] at hd
      obtain rfl := (Option.some.inj hd)
      have hmz : m < xs.length := (List.getElem?_eq_some_iff.mp hp).1
      have nD : D ≠ B.b := fun e => by
        obtain ⟨o, ho⟩ := e2.en.at_.some
        rw [e, ho] at hD; cases hD
      refine ⟨hw x, ht x G' ((e1.trans e2.g).trans ex.g) G' H' (Ex.refl _) ex.en _ fun b G4 H4 e4 => ?_⟩
      have a4 := e4.h _ _ nD hacc
      have g4 : G4 D = none := e4.unseen gD' hacc
      cases b with
      | false => exact iteF ⟨G4, acc, ys, ex.trans e4, g4, a4, by omega, hall.mono e4.g, hR⟩
      | true =>
        refine iteT ⟨x, hj x, acc, a4, sz_lt (by rw [hall.length, List.length_map]; omega), G4, acc ++ [x], ys ++ [p], (ex.trans e4).mut hD g4, g4, upd_same, by rw [List.length_append, List.length_singleton]; omega, ?_, fun y hy => ?_⟩
        · rw [List.map_append]; exact (hall.mono e4.g).append (.cons (hxd.mono e4.g) .nil)
        · rcases of_append hy with hy | hy
          · exact hR y hy
          · rw [of_one hy]; exact List.mem_of_getElem? hp
  · intro H' ⟨G', acc, ys, ex, gD', hacc, hl, hall, hR⟩
    exact q _ _ _ _ (e2.trans (ex.show hD gD' hacc)) (.lst upd_same (hall.mono (Ex.new gD'))) ⟨ys, rfl, by omega, hR⟩
end
/-! ### the promise of a def that draws: the box ahead of its arguments -/
def spB (K : PySem.W.Frag) (P : List PyData → Prop) (R : List PyData → Ps) : Sp := fun vs H Q _ => ∃ (B : Bx) (ds : List PyData) (ws : List V) (G : Hp), Bs B G H ∧ vs = .ref B.b :: ws ∧ IsAll K G ws ds ∧ P ds ∧ ∀ v d G' H', Mt B G H G' H' → Is K G' v d → R ds d → Q v H'
theorem em_draw {K : PySem.W.Frag} {B : Bx} {G : Hp} {σ : L2.St} {i : Nat} {ds : List PyData} {tr : TA} {P : List PyData → Prop} {R : List PyData → Ps} {E : XK} (hs : σ[i]? = some (some (.ref B.b))) (h : EvDs K tr σ G ds) (hP : P ds) : EvM K B (tCall (spB K P R) [] E (tCons (tVar i) tr)) σ G (R ds) := fun G1 H1 e1 s Q q =>
  ⟨_, hs, h G1 H1 e1 s.sub _ fun vs G2 H2 e2 h2 => ⟨B, ds, vs, G2, (e2.mt s).en, by rw [List.append_nil], h2, hP, fun v d G3 H3 e3 h3 r => q v d G3 H3 ((e2.mt s).trans e3) h3 r⟩⟩
end Rt
namespace Rt
open PySem PySem.Spec PyProof.Rows L2 Evl
/-! ### the box from the script -/
abbrev intsd (is : List Int) : PyData := .list (is.map PyData.int)
theorem isAll_ints {K : PySem.W.Frag} {G : Hp} : ∀ is : List Int, IsAll K G (is.map V.int) (is.map PyData.int)
  | [] => .nil
  | i :: is => .cons (.int i) (isAll_ints is)
theorem ints_isAll {K : PySem.W.Frag} {G : Hp} : ∀ {is : List Int} {xs : List V}, IsAll K G xs (is.map PyData.int) → xs = is.map V.int
  | [], _, .nil => rfl
  | i :: is, _, .cons h hs => by rw [h.intIn, ints_isAll hs]; rfl
def spCell (K : PySem.W.Frag) : Sp := fun vs H Q _ => ∃ (a : Addr) (ns : List Int) (k : Nat), vs = [.ref a, .int (k : Int)] ∧ SqL K H a (ns.map V.int) ∧ ∀ i : Int, Q (.int i) H
def spRow (K : PySem.W.Frag) : Sp := fun vs H Q _ => ∃ (c : Int) (k : Nat) (G : Hp), Ex G H ∧ vs = [.int c, .int (k : Int), .int 12] ∧ ∀ v G' H' (is : List Int), Ext G H G' H' → Is K G' v (intsd is) → is.length ≤ 60 → Q v H'
def spBox (K : PySem.W.Frag) : Sp := fun vs H Q _ => ∃ (a : Addr) (ns : List Int) (G : Hp), Ex G H ∧ vs = [.ref a, .int 0, .int 40] ∧ SqL K H a (ns.map V.int) ∧ ∀ B G' H', Ext G H G' H' → Bs B G' H' → Q (.ref B.b) H'
section
variable {w : World} {P : Program} {K : PySem.W.Frag} {mg : Str → Option Value} {base : Heap} {f : Addr} {fd : FuncData}
abbrev s_law_cell : Stmt := top 31
theorem sc_law_cell : FnScope ["_law_script", "_law_k"] ["_law_script", "_law_k"] (defScope s_law_cell) := ⟨rfl, rfl, rfl, by decide +kernel, rfl, by decide +kernel, by decide +kernel⟩
theorem lk__law_cell__law_script : (defScope s_law_cell).names.lookup ("_law_script" : Str) = some .local := by decide +kernel
theorem lk__law_cell__law_k : (defScope s_law_cell).names.lookup ("_law_k" : Str) = some .local := by decide +kernel
theorem gk__law_cell_len : (defScope s_law_cell).names.lookup ("len" : Str) = some .globalImplicit := by decide +kernel
theorem has__law_cell (F : Fun K "_law_cell" "_law_cell" s_law_cell f fd) (m : mg "_law_cell" = some (.ref f)) (zLen : mg "len" = none) : Has P w K mg base "_law_cell" 1 ["_law_script", "_law_k"] (spCell K) :=
  has_of F m (F.binds fun _ _ _ _ _ _ us hl => match us, hl with | [_, _], _ => rfl) sc_law_cell (fun vs H Q E ⟨a, ns, k, e, _⟩ => by rw [e]; rfl) fun cdv A outer s H vs Q E hr h => by
    refine ⟨_, (pss_cons (ps_if (pt_cmpR op_ltI (pv 1 rfl (Or.inl lk__law_cell__law_k)) (pe_callB (call_lenK (K := K) rfl) gk__law_cell_len zLen PySem.boot_len (pa_cons (pv 0 rfl (Or.inl lk__law_cell__law_script)) pa_nil)) (nomark _)) (pss_one (ps_ret (pe_ix (ix_seqK (K := K) rfl) (pv 0 rfl (Or.inl lk__law_cell__law_script)) (pv 1 rfl (Or.inl lk__law_cell__law_k)) (fun _ _ => rfl)))) pss_nil) (pss_one (ps_ret pe_int))), ?_⟩
    obtain ⟨a, ns, k, rfl, hS, q⟩ := h
    refine ⟨_, rfl, _, rfl, a, _, rfl, .inl hS, _, _, rfl, rfl, _, rfl, ite_by (fun hk => ?_) fun hk => ?_⟩
    · have hk' : (k : Int) < ((ns.map V.int).length : Int) := of_decide_eq_true hk
      rw [List.length_map] at hk'
      have hk2 : k < ns.length := by omega
      refine ⟨_, rfl, _, rfl, .inl ⟨a, _, (k : Int), .int ns[k], rfl, rfl, hS, atI_nat ?_, q _⟩⟩
      rw [List.getElem?_map, List.getElem?_eq_getElem hk2]; rfl
    · exact q 0
abbrev s_law_row : Stmt := top 32
theorem sc_law_row : FnScope ["_law_cell_here", "_law_k", "_law_many", "_law_row_here", "_law_turn", "_law_seed"] ["_law_cell_here", "_law_k", "_law_many"] (defScope s_law_row) := ⟨rfl, rfl, rfl, by decide +kernel, rfl, by decide +kernel, by decide +kernel⟩
theorem lk__law_row__law_cell_here : (defScope s_law_row).names.lookup ("_law_cell_here" : Str) = some .local := by decide +kernel
theorem lk__law_row__law_k : (defScope s_law_row).names.lookup ("_law_k" : Str) = some .local := by decide +kernel
theorem lk__law_row__law_many : (defScope s_law_row).names.lookup ("_law_many" : Str) = some .local := by decide +kernel
theorem lk__law_row__law_row_here : (defScope s_law_row).names.lookup ("_law_row_here" : Str) = some .local := by decide +kernel
theorem lk__law_row__law_turn : (defScope s_law_row).names.lookup ("_law_turn" : Str) = some .local := by decide +kernel
theorem lk__law_row__law_seed : (defScope s_law_row).names.lookup ("_law_seed" : Str) = some .local := by decide +kernel
theorem gk__law_row_range : (defScope s_law_row).names.lookup ("range" : Str) = some .globalImplicit := by decide +kernel
theorem gk__law_row_int : (defScope s_law_row).names.lookup ("int" : Str) = some .globalImplicit := by decide +kernel
theorem gk__law_row_len : (defScope s_law_row).names.lookup ("len" : Str) = some .globalImplicit := by decide +kernel
theorem has__law_row (F : Fun K "_law_row" "_law_row" s_law_row f fd) (m : mg "_law_row" = some (.ref f)) (zLen : mg "len" = none) (zRange : mg "range" = none) (zInt : mg "int" = none) : Has P w K mg base "_law_row" 1 ["_law_cell_here", "_law_k", "_law_many"] (spRow K) :=
  has_of F m (F.binds fun _ _ _ _ _ _ us hl => match us, hl with | [_, _, _], _ => rfl) sc_law_row (fun vs H Q E ⟨c, k, G, _, e, _⟩ => by rw [e]; rfl) fun cdv A outer s H vs Q E hr h => by
    refine ⟨_, (pss_cons (ps_set (i := 3) sc_law_row.nd rfl (Or.inl lk__law_row__law_row_here) (pe_lst pa_nil)) (pss_cut (ps_if (pt_cmpR op_ltI (pv 0 rfl (Or.inl lk__law_row__law_cell_here)) pe_int (nomark _)) (pss_one (ps_set (i := 0) sc_law_row.nd rfl (Or.inl lk__law_row__law_cell_here) (pe_op op_subI pe_int (pe_op op_mulS pe_int (pv 0 rfl (Or.inl lk__law_row__law_cell_here)))))) pss_nil) (pss_cons (ps_if (pt_cmpR op_geI (pv 0 rfl (Or.inl lk__law_row__law_cell_here)) (pe_op op_powI pe_int pe_int) (nomark _)) (pss_cons (ps_for PassesOwn.never rfl (pi_range1 gk__law_row_range zRange (pa_cons pe_int pa_nil)) (pg_name (i := 4) sc_law_row.nd rfl (Or.inl lk__law_row__law_turn)) (pss_one (ps_if (PW.pt (pw_and (pt_cmpR op_gtI (pv 0 rfl (Or.inl lk__law_row__law_cell_here)) pe_int (nomark _)) (pw_and1 (pt_cmpR op_ltI (pe_callB (call_lenK (K := K) rfl) gk__law_row_len zLen PySem.boot_len (pa_cons (pv 3 rfl (Or.inl lk__law_row__law_row_here)) pa_nil)) (pv 2 rfl (Or.inl lk__law_row__law_many)) (nomark _))))) (pss_cons (ps_expr (pe_appK (K := K) rfl (pv 3 rfl (Or.inl lk__law_row__law_row_here)) (pe_op op_modI (pe_callTy call_toI gk__law_row_int zInt (by decide +kernel) (pa_cons (pv 0 rfl (Or.inl lk__law_row__law_cell_here)) pa_nil)) pe_int))) (pss_one (ps_set (i := 0) sc_law_row.nd rfl (Or.inl lk__law_row__law_cell_here) (pe_op op_divI (pv 0 rfl (Or.inl lk__law_row__law_cell_here)) pe_int)))) pss_nil))) (pss_one (ps_ret (pv 3 rfl (Or.inl lk__law_row__law_row_here))))) pss_nil) (pss_cons (ps_set (i := 5) sc_law_row.nd rfl (Or.inl lk__law_row__law_seed) (pe_op op_modI (pe_callTy call_toI gk__law_row_int zInt (by decide +kernel) (pa_cons (pe_op (op_addK (K := K) rfl) (pe_op (op_addK (K := K) rfl) (pe_op op_mulS (pv 0 rfl (Or.inl lk__law_row__law_cell_here)) pe_int) (pe_op op_mulS (pv 1 rfl (Or.inl lk__law_row__law_k)) pe_int)) pe_int) pa_nil)) pe_int)) (pss_cons (ps_for PassesOwn.never rfl (pi_range1 gk__law_row_range zRange (pa_cons (pv 2 rfl (Or.inl lk__law_row__law_many)) pa_nil)) (pg_name (i := 4) sc_law_row.nd rfl (Or.inl lk__law_row__law_turn)) (pss_cons (ps_set (i := 5) sc_law_row.nd rfl (Or.inl lk__law_row__law_seed) (pe_op op_modI (pe_callTy call_toI gk__law_row_int zInt (by decide +kernel) (pa_cons (pe_op (op_addK (K := K) rfl) (pe_op (op_addK (K := K) rfl) (pe_op op_mulS (pv 5 rfl (Or.inl lk__law_row__law_seed)) pe_int) (pe_op op_mulS pe_int (pv 4 rfl (Or.inl lk__law_row__law_turn)))) pe_int) pa_nil)) pe_int)) (pss_one (ps_expr (pe_appK (K := K) rfl (pv 3 rfl (Or.inl lk__law_row__law_row_here)) (pe_op op_modI (pe_callTy call_toI gk__law_row_int zInt (by decide +kernel) (pa_cons (pe_op op_divI (pv 5 rfl (Or.inl lk__law_row__law_seed)) pe_int) pa_nil)) pe_int)))))) (pss_one (ps_ret (pv 3 rfl (Or.inl lk__law_row__law_row_here))))))))), ?_⟩
    obtain ⟨c, k, G, sG, rfl, q⟩ := h
    refine ⟨(Nat.zero_le _), fun l hl => ?_⟩
    have gl : G l = none := fresh_back sG hl
    have x1 : Ext G H G (upd H l (.lst [])) := (Ext.refl sG).mut hl gl
    refine ⟨fun σ' H' => ∃ (c' : Int) (G' : Hp), Ext G H G' H' ∧ G' l = none ∧ H' l = some (.lst []) ∧ σ' = [some (.int c'), some (.int (k : Int)), some (.int 12), some (.ref l), none, none], ?_, ?_⟩
    · change tIfS _ _ _ _ [some (.int c), some (.int (k : Int)), some (.int 12), some (.ref l), none, none] _
      refine si (eb_val (K := K) (evd_lt (evd_var rfl (.int c)) evd_int)) x1.sub fun G2 H2 e2 => ite_by (fun _ => ?_) fun _ => ?_
      · refine sa (K := K) (evd_sub evd_int (evd_mulS evd_int (evd_var rfl (.int c)) (.inl (by decide)))) e2.sub fun v3 G3 H3 e3 h3 => ?_
        obtain rfl := h3.intIn
        exact ⟨_, G3, (x1.trans e2).trans e3, e3.unseen (e2.unseen gl upd_same) (e2.h _ _ upd_same), e3.h _ _ (e2.h _ _ upd_same), rfl⟩
      · exact ⟨_, G2, x1.trans e2, e2.unseen gl upd_same, e2.h _ _ upd_same, rfl⟩
    · rintro σ' H' ⟨c, G2, x2, g2, l2, rfl⟩
      refine qi (eb_val (K := K) (evd_ge (evd_var rfl (.int c)) (evd_pow (i := 10) (j := 18) evd_int evd_int ⟨by decide, by decide, by decide⟩))) x2.sub fun G3 H3 e3 => ite_by (fun _ => ?_) fun _ => ?_
      · have g3 := e3.unseen g2 l2
        have l3 := e3.h _ _ l2
        refine q_forR (K := K) (n := 60) evd_int (by decide) e3.sub fun G4 H4 e4 => ⟨fun i σ' G' H' => Ext G H G' H' ∧ G' l = none ∧ ∃ (c' : Int) (is : List Int) (u4 u5 : Option V), σ' = [some (.int c'), some (.int (k : Int)), some (.int 12), some (.ref l), u4, u5] ∧ H' l = some (.lst (is.map V.int)) ∧ is.length ≤ i,
          ⟨(x2.trans e3).trans e4, e4.unseen g3 l3, c, [], none, none, rfl, e4.h _ _ l3, Nat.le_refl _⟩, ?_, ?_⟩
        · rintro i σ' G' H' hi ⟨e, gl', c', is, u4, u5, rfl, hacc, hal⟩
          change tIfS _ _ _ _ [some (.int c'), some (.int (k : Int)), some (.int 12), some (.ref l), some (.int (i : Int)), u5] H'
          refine eb_val (K := K) (evd_gt (evd_var rfl (.int c')) evd_int) G' H' (Ex.refl _) e.sub _ fun G5 H5 e5 => ?_
          have l5 := e5.h _ _ hacc
          have g5 := e5.unseen gl' hacc
          refine ite_by (fun _ => ?_) fun _ => ?_
          · refine ⟨_, rfl, l, _, rfl, .inl (SqL.of l5), _, rfl, _, _, rfl, rfl, _, rfl, ite_by (fun _ => ?_) fun _ => ?_⟩
            · refine s_app (K := K) (d := .int (c' % 1000)) rfl l5 (by rw [List.length_map]; omega) (evd_mod (evd_toInt (evd_var rfl (.int c'))) evd_int (by decide)) (e.trans e5).sub fun z G6 H6 e6 l6 h6 => ?_
              obtain rfl := h6.intIn
              have g6 := e6.unseen g5 l5
              have x6 := ((e.trans e5).trans e6).mut (o := .lst (is.map V.int ++ [.int (c' % 1000)])) hl g6
              dsimp only
              refine sa (K := K) (evd_div (evd_var rfl (.int c')) evd_int ⟨by decide, by decide⟩) x6.sub fun v7 G7 H7 e7 h7 => ?_
              obtain rfl := h7.intIn
              refine ⟨G7, x6.trans e7, e7.unseen g6 upd_same, _, is ++ [c' % 1000], _, _, rfl, ?_, by rw [List.length_append, List.length_singleton]; omega⟩
              rw [List.map_append]
              exact e7.h _ _ upd_same
            · exact ⟨G5, e.trans e5, g5, c', is, _, _, rfl, l5, by omega⟩
          · exact ite_no rfl ⟨G5, e.trans e5, g5, c', is, _, _, rfl, l5, by omega⟩
        · rintro σ' G' H' ⟨e, gl', c', is, u4, u5, rfl, hacc, hal⟩
          exact ⟨_, rfl, q _ (upd G' l _) H' is (e.show hl gl' hacc) (.lst upd_same (isAll_ints is)) hal⟩
      · have g3 := e3.unseen g2 l2
        have l3 := e3.h _ _ l2
        dsimp only [tNext]
        refine qa (K := K) (evd_mod (evd_toInt (evd_add (evd_add (evd_mulS (evd_var rfl (.int c)) evd_int (.inr (by decide))) (evd_mulS (evd_var rfl (.int (k : Int))) evd_int (.inr (by decide)))) evd_int)) evd_int (by decide)) e3.sub fun v4 G4 H4 e4 h4 => ?_
        obtain rfl := h4.intIn
        have g4 := e4.unseen g3 l3
        have l4 := e4.h _ _ l3
        generalize (c * 48271 + (k : Int) * 69621 + 11) % 2147483647 = sd
        change tSeq _ _ _ [some (.int c), some (.int (k : Int)), some (.int 12), some (.ref l), none, some (.int sd)] H4
        refine q_forR (K := K) (n := 12) (evd_var rfl (.int 12)) (by decide) e4.sub fun G5 H5 e5 => ⟨fun i σ' G' H' => Ext G H G' H' ∧ G' l = none ∧ ∃ (s' : Int) (is : List Int) (u4 : Option V), σ' = [some (.int c), some (.int (k : Int)), some (.int 12), some (.ref l), u4, some (.int s')] ∧ H' l = some (.lst (is.map V.int)) ∧ is.length ≤ i,
          ⟨((x2.trans e3).trans e4).trans e5, e5.unseen g4 l4, sd, [], none, rfl, e5.h _ _ l4, Nat.le_refl _⟩, ?_, ?_⟩
        · rintro i σ' G' H' hi ⟨e, gl', s', is, u4, rfl, hacc, hal⟩
          change tSeq _ _ _ [some (.int c), some (.int (k : Int)), some (.int 12), some (.ref l), some (.int (i : Int)), some (.int s')] H'
          refine qa (K := K) (evd_mod (evd_toInt (evd_add (evd_add (evd_mulS (evd_var rfl (.int s')) evd_int (.inr (by decide))) (evd_mulS evd_int (evd_var rfl (.int (i : Int))) (.inl (by decide)))) evd_int)) evd_int (by decide)) e.sub fun v6 G6 H6 e6 h6 => ?_
          obtain rfl := h6.intIn
          generalize (s' * 16807 + 7 * (i : Int) + 1) % 2147483647 = sd
          have l6 := e6.h _ _ hacc
          have g6 := e6.unseen gl' hacc
          refine s_app (K := K) (σ := [some (.int c), some (.int (k : Int)), some (.int 12), some (.ref l), some (.int (i : Int)), some (.int sd)]) rfl l6 (by rw [List.length_map]; omega) (evd_mod (evd_toInt (evd_div (evd_var rfl (.int sd)) evd_int ⟨by decide, by decide⟩)) evd_int (by decide)) e6.sub fun z G7 H7 e7 l7 h7 => ?_
          obtain rfl := h7.intIn
          have g7 := e7.unseen g6 l6
          refine ⟨G7, ((e.trans e6).trans e7).mut hl g7, g7, sd, is ++ [sd.fdiv 997 % 1000], _, rfl, ?_, by rw [List.length_append, List.length_singleton]; omega⟩
          rw [List.map_append]
          exact upd_same
        · rintro σ' G' H' ⟨e, gl', s', is, u4, rfl, hacc, hal⟩
          exact ⟨_, rfl, q _ (upd G' l _) H' is (e.show hl gl' hacc) (.lst upd_same (isAll_ints is)) (by omega)⟩
abbrev s_law_box : Stmt := top 33
theorem sc_law_box : FnScope ["_law_script", "_law_first", "_law_last", "_law_row_here", "_law_k"] ["_law_script", "_law_first", "_law_last"] (defScope s_law_box) := ⟨rfl, rfl, rfl, by decide +kernel, rfl, by decide +kernel, by decide +kernel⟩
theorem lk__law_box__law_script : (defScope s_law_box).names.lookup ("_law_script" : Str) = some .local := by decide +kernel
theorem lk__law_box__law_first : (defScope s_law_box).names.lookup ("_law_first" : Str) = some .local := by decide +kernel
theorem lk__law_box__law_last : (defScope s_law_box).names.lookup ("_law_last" : Str) = some .local := by decide +kernel
theorem lk__law_box__law_row_here : (defScope s_law_box).names.lookup ("_law_row_here" : Str) = some .local := by decide +kernel
theorem lk__law_box__law_k : (defScope s_law_box).names.lookup ("_law_k" : Str) = some .local := by decide +kernel
theorem gk__law_box_range : (defScope s_law_box).names.lookup ("range" : Str) = some .globalImplicit := by decide +kernel
theorem gk__law_box__law_row : (defScope s_law_box).names.lookup ("_law_row" : Str) = some .globalImplicit := by decide +kernel
theorem gk__law_box__law_cell : (defScope s_law_box).names.lookup ("_law_cell" : Str) = some .globalImplicit := by decide +kernel
theorem has__law_box (F : Fun K "_law_box" "_law_box" s_law_box f fd) (m : mg "_law_box" = some (.ref f)) (zRange : mg "range" = none) (h_law_cell : Has P w K mg base "_law_cell" 1 ["_law_script", "_law_k"] (spCell K)) (h_law_row : Has P w K mg base "_law_row" 1 ["_law_cell_here", "_law_k", "_law_many"] (spRow K)) : Has P w K mg base "_law_box" 2 ["_law_script", "_law_first", "_law_last"] (spBox K) :=
  has_of F m (F.binds fun _ _ _ _ _ _ us hl => match us, hl with | [_, _, _], _ => rfl) sc_law_box (fun vs H Q E ⟨a, ns, G, _, e, _⟩ => by rw [e]; rfl) fun cdv A outer s H vs Q E hr h => by
    refine ⟨_, (pss_cons (ps_set (i := 3) sc_law_box.nd rfl (Or.inl lk__law_box__law_row_here) (pe_lst pa_nil)) (pss_cons (ps_for PassesOwn.never rfl (pi_range2 gk__law_box_range zRange (pa_cons (pv 1 rfl (Or.inl lk__law_box__law_first)) (pa_cons (pv 2 rfl (Or.inl lk__law_box__law_last)) pa_nil))) (pg_name (i := 4) sc_law_box.nd rfl (Or.inl lk__law_box__law_k)) (pss_one (ps_set (i := 3) sc_law_box.nd rfl (Or.inl lk__law_box__law_row_here) (pe_op (op_addK (K := K) rfl) (pv 3 rfl (Or.inl lk__law_box__law_row_here)) (pe_c h_law_row (hr.mono (by decide)) gk__law_box__law_row (pa_cons (pe_c h_law_cell (hr.mono (by decide)) gk__law_box__law_cell (pa_cons (pv 0 rfl (Or.inl lk__law_box__law_script)) (pa_cons (pv 4 rfl (Or.inl lk__law_box__law_k)) pa_nil))) (pa_cons (pv 4 rfl (Or.inl lk__law_box__law_k)) (pa_cons pe_int pa_nil)))))))) (pss_one (ps_ret (pe_lst (pa_cons (pv 3 rfl (Or.inl lk__law_box__law_row_here)) (pa_cons pe_int pa_nil))))))), ?_⟩
    obtain ⟨a, ns, G, sG, rfl, hS, q⟩ := h
    refine qa (K := K) (d := .list []) (evd_lst es_nil) sG fun v1 G1 H1 e1 h1 => ?_
    change tSeq _ _ _ [some (.ref a), some (.int 0), some (.int 40), some v1, none] H1
    refine ⟨_, rfl, _, rfl, 0, 40, rfl, by decide, ?_⟩
    refine for_range (lo := 0) (n := 40) (fun i σ' H' => ∃ (G' : Hp) (v : V) (is : List Int) (u4 : Option V), Ext G H G' H' ∧ σ' = [some (.ref a), some (.int 0), some (.int 40), some v, u4] ∧ Is K G' v (intsd is) ∧ is.length ≤ 60 * i) ⟨G1, v1, [], none, e1, rfl, h1, Nat.le_refl _⟩ ?_ ?_
    · rintro i σ' H' hi ⟨G', v, is, u4, e, rfl, hv, hl⟩
      rw [Int.zero_add]
      refine ⟨v, rfl, .ref a, rfl, .int (i : Int), rfl, a, ns, i, rfl, ex_l e.h hS, fun z => ⟨.int (i : Int), rfl, z, i, G', e.sub, rfl, fun v2 G2 H2 is2 e2 h2 l2 => ?_⟩⟩
      have t := evd_catL (evd_var (K := K) (G := G2) (σ := [some v, some v2]) (i := 0) rfl (hv.mono e2.g)) (evd_var (i := 1) rfl h2) (by rw [List.length_map, List.length_map]; omega) G2 H2 (Ex.refl _) e2.sub
      refine (fun (Q' : VK) (k : ∀ v3 G3 H3, Ext G2 H2 G3 H3 → Is K G3 v3 (intsd (is ++ is2)) → Q' v3 H3) => ?_ : ∀ Q' : VK, (∀ v3 G3 H3, Ext G2 H2 G3 H3 → Is K G3 v3 (intsd (is ++ is2)) → Q' v3 H3) → rAddU K v v2 H2 Q') _ ?_
      · rw [← List.map_append] at t
        obtain ⟨x, hx, y, hy, r⟩ := t Q' k
        cases hx
        cases hy
        exact r
      · intro v3 G3 H3 e3 h3
        exact ⟨G3, v3, is ++ is2, _, (e.trans e2).trans e3, rfl, h3, by rw [List.length_append]; omega⟩
    · rintro σ' H' ⟨G', v, is, u4, e, rfl, hv, hl⟩
      refine ⟨v, rfl, sz_of (by show 2 ≤ 100000; decide), fun p hp => ?_⟩
      obtain ⟨r, xs, rfl, hx, hs⟩ := hv.lstIn
      obtain rfl := ints_isAll hs
      have gp : G' p = none := fresh_back e.sub hp
      have hr := e.sub _ _ hx
      have ne : r ≠ p := fun z => by rw [z, hp] at hr; cases hr
      have hp0 : H p = none := fresh_back e.h hp
      exact q ⟨p, r, is⟩ G' _ (e.mut hp0 gp) ⟨(e.mut hp0 gp).sub, gp, ⟨⟨0, upd_same⟩, by show upd H' p _ r = _; rw [upd_ne ne]; exact hr, ne⟩⟩
end
end Rt
namespace Rt
open PySem PySem.Spec PyProof.Rows L2 Evl
/-! ### what is drawn -/
def Pd : List PyData → Prop := fun ds => ∃ m : Int, ds = [.int m] ∧ 0 < m
def Rd : List PyData → Ps := fun ds d => ∃ i : Int, d = .int i ∧ ∃ m : Int, ds = [.int m] ∧ 0 ≤ i ∧ i < m
def Nil : List PyData → Prop := fun ds => ds = []
def Fx (x : Rat) : Prop := C 6 24 x ∧ (x ≠ 0 → C 12 36 (1 / x))
def isFx : Ps := fun d => ∃ x, d = fr x ∧ Fx x
def isNz : Ps := fun d => ∃ x, d = fr x ∧ x ≠ 0 ∧ C 6 24 x ∧ C 12 36 (1 / x)
def isEl : Ps := fun d => ∃ e : El, d = e.dat ∧ e.good
def isRay : Ps := fun d => ∃ r : Ray, d = rayd r ∧ RayB r
def isTrain : Ps := fun d => ∃ t, d = traind t ∧ Good t
def P8 : List PyData → Prop := fun ds => ds = [.int 8]
def cOk (D N : Nat) (x : Rat) : Bool := (x * (D : Rat)).den == 1 && decide ((x * (D : Rat)).num.natAbs ≤ N)
theorem C.of_ok {D N : Nat} {x : Rat} (h : cOk D N x = true) : C D N x := by
  unfold cOk at h
  rw [Bool.and_eq_true] at h
  refine ⟨(x * (D : Rat)).num, ?_, of_decide_eq_true h.2⟩
  have hd := eq_of_beq h.1
  have e := (num_eq (x * (D : Rat))).symm
  rw [hd, show (((1 : Nat) : Rat)) = 1 from rfl, Rat.mul_one] at e
  exact e
def fxOk (x : Rat) : Bool := cOk 6 24 x && (decide (x = 0) || cOk 12 36 (1 / x))
theorem Fx.of_ok {x : Rat} (h : fxOk x = true) : Fx x := by
  unfold fxOk at h
  rw [Bool.and_eq_true, Bool.or_eq_true] at h
  refine ⟨.of_ok h.1, fun n => ?_⟩
  rcases h.2 with h | h
  · exact absurd (of_decide_eq_true h) n
  · exact .of_ok h
theorem fx_all : ∀ i : Fin 9, ∀ j ∈ [1, 2, 3], fxOk (Rat.divInt ((i.val : Int) - 4) (j : Int)) = true := by decide +kernel
theorem fx_of {i j : Int} (h0 : 0 ≤ i) (h1 : i < 9) (hj : j = 1 ∨ j = 2 ∨ j = 3) : Fx (Rat.divInt (i - 4) j) := by
  obtain ⟨n, rfl⟩ := of_nat h0
  have hn : n < 9 := by omega
  exact .of_ok (fx_all ⟨n, hn⟩ j (by rcases hj with rfl | rfl | rfl <;> decide))
theorem half_all : ∀ i : Fin 9, cOk 6 24 (Rat.divInt (i.val : Int) 2) = true := by decide +kernel
theorem half_of {i : Int} (h0 : 0 ≤ i) (h1 : i < 9) : C 6 24 (Rat.divInt i 2) := by
  obtain ⟨n, rfl⟩ := of_nat h0
  exact .of_ok (half_all ⟨n, by omega⟩)
theorem fx_zero : Fx 0 := .of_ok (by decide +kernel)
theorem fx_half : cOk 6 24 (Rat.divInt 1 2) = true ∧ cOk 12 36 (1 / Rat.divInt 1 2) = true ∧ (Rat.divInt 1 2) ≠ 0 ∧ fr (Rat.divInt 1 2) = .tuple [.int 1, .int 2] := by
  refine ⟨by decide +kernel, by decide +kernel, by decide +kernel, ?_⟩
  have h1 : (Rat.divInt 1 2).num = 1 := by decide +kernel
  have h2 : (Rat.divInt 1 2).den = 2 := by decide +kernel
  unfold fr
  rw [h1, h2]; rfl
section
variable {K : PySem.W.Frag} {B : Bx} {G : Hp} {σ : L2.St} {i : Nat} {m : Int} {E : XK}
/-- draw(box, m) -/
theorem em_d (hs : σ[i]? = some (some (.ref B.b))) (hm : 0 < m) : EvM K B (tCall (spB K Pd Rd) [] E (tCons (tVar i) (tCons (tC (.int m)) tNil))) σ G (fun d => ∃ i, d = .int i ∧ 0 ≤ i ∧ i < m) :=
  (em_draw hs (es_cons evd_int es_nil) ⟨m, rfl, hm⟩).imp fun d ⟨i, e, m', em, h⟩ => by cases em; exact ⟨i, e, h⟩
/-- a def of the box alone -/
theorem em_b {R : Ps} (hs : σ[i]? = some (some (.ref B.b))) : EvM K B (tCall (spB K Nil fun _ => R) [] E (tCons (tVar i) tNil)) σ G R := em_draw hs es_nil rfl
theorem em_int {j : Int} : EvM K B (tC (.int j)) σ G (fun d => ∃ i, d = .int i ∧ i = j) := evd_int.m.imp fun d h => ⟨j, h, rfl⟩
/-- ends of a def that draws nothing more -/
theorem mret {te : TE} {d : PyData} {H : Hp} {D : Ends} (h : EvD K te σ G d) (s : Bs B G H) (k : ∀ v G' H', Mt B G H G' H' → Is K G' v d → D.rt v H') : tRet te D σ H := mr h.m s fun v d' G' H' e h' r => by subst r; exact k v G' H' e h'
end
section
variable {w : World} {P : Program} {K : PySem.W.Frag} {mg : Str → Option Value} {base : Heap} {f : Addr} {fd : FuncData}
theorem spB_len {n : Nat} {Pp : List PyData → Prop} {R : List PyData → Ps} (h : ∀ ds, Pp ds → ds.length + 1 = n) : ∀ vs H Q E, spB K Pp R vs H Q E → vs.length = n := by
  rintro vs H Q E ⟨B, ds, ws, G, _, rfl, hw, hP, _⟩
  rw [List.length_cons, hw.length]; exact h ds hP
abbrev s_law_draw : Stmt := top 34
theorem sc_law_draw : FnScope ["_law_box_here", "_law_many", "_law_at"] ["_law_box_here", "_law_many"] (defScope s_law_draw) := ⟨rfl, rfl, rfl, by decide +kernel, rfl, by decide +kernel, by decide +kernel⟩
theorem lk__law_draw__law_box_here : (defScope s_law_draw).names.lookup ("_law_box_here" : Str) = some .local := by decide +kernel
theorem lk__law_draw__law_many : (defScope s_law_draw).names.lookup ("_law_many" : Str) = some .local := by decide +kernel
theorem lk__law_draw__law_at : (defScope s_law_draw).names.lookup ("_law_at" : Str) = some .local := by decide +kernel
theorem gk__law_draw_int : (defScope s_law_draw).names.lookup ("int" : Str) = some .globalImplicit := by decide +kernel
theorem gk__law_draw_len : (defScope s_law_draw).names.lookup ("len" : Str) = some .globalImplicit := by decide +kernel
theorem has__law_draw (F : Fun K "_law_draw" "_law_draw" s_law_draw f fd) (m : mg "_law_draw" = some (.ref f)) (zLen : mg "len" = none) (zInt : mg "int" = none) : Has P w K mg base "_law_draw" 1 ["_law_box_here", "_law_many"] (spB K Pd Rd) :=
  has_of F m (F.binds fun _ _ _ _ _ _ us hl => match us, hl with | [_, _], _ => rfl) sc_law_draw (spB_len fun ds ⟨m, e, _⟩ => by rw [e]; rfl) fun cdv A outer s H vs Q E hr h => by
    refine ⟨_, (pss_cons (ps_set (i := 2) sc_law_draw.nd rfl (Or.inl lk__law_draw__law_at) (pe_ix (ix_seqK (K := K) rfl) (pv 0 rfl (Or.inl lk__law_draw__law_box_here)) pe_int (fun _ _ => rfl))) (pss_cons (ps_asg (pe_op (op_addK (K := K) rfl) (pv 2 rfl (Or.inl lk__law_draw__law_at)) pe_int) (pg_sub (pv 0 rfl (Or.inl lk__law_draw__law_box_here)) pe_int set_list)) (pss_cons (ps_if (pt_cmpR op_ltI (pv 2 rfl (Or.inl lk__law_draw__law_at)) (pe_callB (call_lenK (K := K) rfl) gk__law_draw_len zLen PySem.boot_len (pa_cons (pe_ix (ix_seqK (K := K) rfl) (pv 0 rfl (Or.inl lk__law_draw__law_box_here)) pe_int (fun _ _ => rfl)) pa_nil)) (nomark _)) (pss_one (ps_ret (pe_op op_modI (pe_callTy call_toI gk__law_draw_int zInt (by decide +kernel) (pa_cons (pe_ix (ix_seqK (K := K) rfl) (pe_ix (ix_seqK (K := K) rfl) (pv 0 rfl (Or.inl lk__law_draw__law_box_here)) pe_int (fun _ _ => rfl)) (pv 2 rfl (Or.inl lk__law_draw__law_at)) (fun _ _ => rfl)) pa_nil)) (pv 1 rfl (Or.inl lk__law_draw__law_many))))) pss_nil) (pss_one (ps_ret (pe_op op_modI (pe_callTy call_toI gk__law_draw_int zInt (by decide +kernel) (pa_cons (pe_op (op_addK (K := K) rfl) (pe_op op_mulS (pv 2 rfl (Or.inl lk__law_draw__law_at)) pe_int) pe_int) pa_nil)) (pv 1 rfl (Or.inl lk__law_draw__law_many)))))))), ?_⟩
    obtain ⟨B, ds, ws, G, sB, rfl, hw, ⟨m, rfl, hm⟩, q⟩ := h
    obtain ⟨u, rfl, hu⟩ := hw.one
    obtain rfl := hu.intIn
    obtain ⟨n, hb⟩ := sB.at_.box
    refine ⟨_, rfl, .inl ⟨B.b, _, 1, .int (n : Int), rfl, rfl, SqL.of hb, rfl, ?_⟩⟩
    change tSeq _ _ _ [some (.ref B.b), some (.int m), some (.int (n : Int))] H
    refine ⟨_, rfl, .inl ⟨(n : Int), 1, rfl, rfl, _, rfl, B.b, _, 1, 1, rfl, rfl, hb, rfl, ?_⟩⟩
    have mt := Mt.step (m := n + 1) sB
    change tSeq (tIfS (tTest (tOp rLtI (tVar 2) (tCB (rLen K) (tCons (tOp (rIx K) (tVar 0) (tC (V.int 0))) tNil)))) _ _) _ _ [some (.ref B.b), some (.int m), some (.int (n : Int))] (upd H B.b (.lst [.ref B.r, .int ((n + 1 : Nat) : Int)]))
    have hb2 := upd_same (H := H) (a := B.b) (o := .lst [.ref B.r, .int ((n + 1 : Nat) : Int)])
    have hrow := mt.en.at_.row
    generalize upd H B.b (.lst [.ref B.r, .int ((n + 1 : Nat) : Int)]) = H2 at *
    refine ⟨_, rfl, _, rfl, .inl ⟨B.b, _, 0, .ref B.r, rfl, rfl, SqL.of hb2, rfl, B.r, _, rfl, .inl (SqL.of hrow), _, _, rfl, rfl, _, rfl, ite_by (fun hk => ?_) fun hk => ?_⟩⟩
    · have hk' : (n : Int) < ((B.row.map V.int).length : Int) := of_decide_eq_true hk
      rw [List.length_map] at hk'
      have hk2 : n < B.row.length := by omega
      have hx : (B.row.map V.int)[n]? = some (.int B.row[n]) := by rw [List.getElem?_map, List.getElem?_eq_getElem hk2]; rfl
      exact ⟨_, rfl, .inl ⟨B.b, _, 0, .ref B.r, rfl, rfl, SqL.of hb2, rfl, _, rfl, .inl ⟨B.r, _, (n : Int), .int B.row[n], rfl, rfl, SqL.of hrow, atI_nat hx, .inl ⟨_, rfl, _, rfl, _, _, rfl, rfl, hm, q _ _ G H2 mt (.int _) ⟨_, rfl, m, rfl, Int.emod_nonneg _ (by omega), Int.emod_lt_of_pos _ hm⟩⟩⟩⟩⟩
    · dsimp only [tNext]
      refine mr (K := K) (evd_mod (evd_toInt (evd_add (evd_mulS (evd_var rfl (.int (n : Int))) evd_int (.inr (by decide))) evd_int)) (evd_var rfl (.int m)) hm).m mt.en fun v d G3 H3 e3 h3 r3 => ?_
      subst r3
      exact q v _ G3 H3 (mt.trans e3) h3 ⟨_, rfl, m, rfl, Int.emod_nonneg _ (by omega), Int.emod_lt_of_pos _ hm⟩
abbrev s_law_fraction : Stmt := top 45
theorem sc_law_fraction : FnScope ["_law_box_here"] ["_law_box_here"] (defScope s_law_fraction) := ⟨rfl, rfl, rfl, by decide +kernel, rfl, by decide +kernel, by decide +kernel⟩
theorem lk__law_fraction__law_box_here : (defScope s_law_fraction).names.lookup ("_law_box_here" : Str) = some .local := by decide +kernel
theorem gk__law_fraction__law_frac : (defScope s_law_fraction).names.lookup ("_law_frac" : Str) = some .globalImplicit := by decide +kernel
theorem gk__law_fraction__law_draw : (defScope s_law_fraction).names.lookup ("_law_draw" : Str) = some .globalImplicit := by decide +kernel
theorem has__law_fraction (F : Fun K "_law_fraction" "_law_fraction" s_law_fraction f fd) (m : mg "_law_fraction" = some (.ref f)) (h_law_draw : Has P w K mg base "_law_draw" 1 ["_law_box_here", "_law_many"] (spB K Pd Rd)) (h_law_frac : Has P w K mg base "_law_frac" 1 ["_law_top", "_law_bottom"] (spR K RFrac)) : Has P w K mg base "_law_fraction" 2 ["_law_box_here"] (spB K Nil fun _ => isFx) :=
  has_of F m (F.binds fun _ _ _ _ _ _ us hl => match us, hl with | [_], _ => rfl) sc_law_fraction (spB_len fun ds e => by rw [show ds = [] from e]; rfl) fun cdv A outer s H vs Q E hr h => by
    refine ⟨_, (pss_one (ps_ret (pe_c h_law_frac (hr.mono (by decide)) gk__law_fraction__law_frac (pa_cons (pe_op op_subI (pe_c h_law_draw (hr.mono (by decide)) gk__law_fraction__law_draw (pa_cons (pv 0 rfl (Or.inl lk__law_fraction__law_box_here)) (pa_cons pe_int pa_nil))) pe_int) (pa_cons (pe_ix (ix_seqK (K := K) rfl) (pe_lst (pa_cons pe_int (pa_cons pe_int (pa_cons pe_int (pa_cons pe_int pa_nil))))) (pe_c h_law_draw (hr.mono (by decide)) gk__law_fraction__law_draw (pa_cons (pv 0 rfl (Or.inl lk__law_fraction__law_box_here)) (pa_cons pe_int pa_nil))) (fun _ _ => rfl)) pa_nil))))), ?_⟩
    obtain ⟨B, ds, ws, G, sB, rfl, hw, rfl, q⟩ := h
    cases hw
    refine mr (K := K) (B := B) (em_call (R := isFx) (ems_cons (em_ii (f := fun i j => .int (i - j)) (fun i j => .int (i - j)) (em_d rfl (by decide)) em_int (fun _ _ _ => .int _) fun i j H Q _ _ q => ⟨i, j, rfl, rfl, q⟩)
      (ems_cons (em_ixL (R := fun d => ∃ j, d = .int j ∧ (j = 1 ∨ j = 2 ∨ j = 3)) (Rs := fun ds => ds = [.int 1, .int 1, .int 2, .int 3]) ((evd_lst (es_cons evd_int (es_cons evd_int (es_cons evd_int (es_cons evd_int es_nil))))).m.imp fun d e => ⟨_, e, rfl⟩) (em_d rfl (by decide)) ?_) ems_nil)) ?_) sB fun v d G' H' e h r => q v d G' H' e h r
    · rintro ds i rfl ⟨h0, h1⟩
      obtain rfl | rfl | rfl | rfl : i = 0 ∨ i = 1 ∨ i = 2 ∨ i = 3 := by omega
      · exact ⟨_, rfl, 1, rfl, .inl rfl⟩
      · exact ⟨_, rfl, 1, rfl, .inl rfl⟩
      · exact ⟨_, rfl, 2, rfl, .inr (.inl rfl)⟩
      · exact ⟨_, rfl, 3, rfl, .inr (.inr rfl)⟩
    · rintro ds ⟨_, _, rfl, ⟨i, j, rfl, ⟨h0, h1⟩, rfl⟩, _, _, rfl, ⟨j, rfl, hj⟩, rfl⟩
      have p8 : (10 : Nat) < 2 ^ e8 := Nat.lt_of_lt_of_le (by decide : (10 : Nat) < 2 ^ 4) (Nat.pow_le_pow_right (by decide) (by decide))
      exact ⟨_, ⟨i - 4, j, rfl, by omega, by omega, by omega, rfl⟩, _, rfl, fx_of h0 h1 hj⟩
abbrev s_law_nonzero : Stmt := top 46
theorem sc_law_nonzero : FnScope ["_law_box_here", "_law_value"] ["_law_box_here"] (defScope s_law_nonzero) := ⟨rfl, rfl, rfl, by decide +kernel, rfl, by decide +kernel, by decide +kernel⟩
theorem lk__law_nonzero__law_box_here : (defScope s_law_nonzero).names.lookup ("_law_box_here" : Str) = some .local := by decide +kernel
theorem lk__law_nonzero__law_value : (defScope s_law_nonzero).names.lookup ("_law_value" : Str) = some .local := by decide +kernel
theorem gk__law_nonzero__law_fraction : (defScope s_law_nonzero).names.lookup ("_law_fraction" : Str) = some .globalImplicit := by decide +kernel
theorem has__law_nonzero (F : Fun K "_law_nonzero" "_law_nonzero" s_law_nonzero f fd) (m : mg "_law_nonzero" = some (.ref f)) (h_law_fraction : Has P w K mg base "_law_fraction" 2 ["_law_box_here"] (spB K Nil fun _ => isFx)) : Has P w K mg base "_law_nonzero" 3 ["_law_box_here"] (spB K Nil fun _ => isNz) :=
  has_of F m (F.binds fun _ _ _ _ _ _ us hl => match us, hl with | [_], _ => rfl) sc_law_nonzero (spB_len fun ds e => by rw [show ds = [] from e]; rfl) fun cdv A outer s H vs Q E hr h => by
    refine ⟨_, (pss_cons (ps_set (i := 1) sc_law_nonzero.nd rfl (Or.inl lk__law_nonzero__law_value) (pe_c h_law_fraction (hr.mono (by decide)) gk__law_nonzero__law_fraction (pa_cons (pv 0 rfl (Or.inl lk__law_nonzero__law_box_here)) pa_nil))) (pss_cons (ps_if (pt_cmpR (op_eqK (K := K) rfl hr.units) (pe_ix (ix_seqK (K := K) rfl) (pv 1 rfl (Or.inl lk__law_nonzero__law_value)) pe_int (fun _ _ => rfl)) pe_int (nomark _)) (pss_one (ps_ret (pe_tup (pa_cons pe_int (pa_cons pe_int pa_nil))))) pss_nil) (pss_one (ps_ret (pv 1 rfl (Or.inl lk__law_nonzero__law_value)))))), ?_⟩
    obtain ⟨B, ds, ws, G, sB, rfl, hw, rfl, q⟩ := h
    cases hw
    refine mqa (K := K) (B := B) (em_b rfl) sB fun v1 d1 G1 H1 e1 h1 ⟨x, ex, hx⟩ => ?_
    subst ex
    change tSeq _ _ _ [some (.ref B.b), some v1] H1
    refine qi (eb_val (K := K) (evd_eqI (ev_num (evd_var rfl h1)) evd_int)) e1.en.sub fun G2 H2 e2 => ite_by (fun _ => ?_) fun hn => ?_
    · refine mret (K := K) (B := B) (pair01 (a := 1) (b := 2)) (e2.mt e1.en).en fun v3 G3 H3 e3 h3 => ?_
      refine q v3 _ G3 H3 ((e1.trans (e2.mt e1.en)).trans e3) h3 ⟨Rat.divInt 1 2, fx_half.2.2.2.symm, fx_half.2.2.1, .of_ok fx_half.1, .of_ok fx_half.2.1⟩
    · have hn' : ¬ x.num = 0 := of_decide_eq_false hn
      have h0 : x ≠ 0 := fun e => hn' (by rw [e]; rfl)
      dsimp only [tNext]
      refine mret (K := K) (B := B) (evd_var rfl (h1.mono e2.g)) (e2.mt e1.en).en fun v3 G3 H3 e3 h3 => ?_
      exact q v3 _ G3 H3 ((e1.trans (e2.mt e1.en)).trans e3) h3 ⟨x, rfl, h0, hx.1, hx.2 h0⟩
abbrev s_law_stop : Stmt := top 47
theorem sc_law_stop : FnScope ["_law_box_here", "_law_lower", "_law_upper", "_law_kind"] ["_law_box_here"] (defScope s_law_stop) := ⟨rfl, rfl, rfl, by decide +kernel, rfl, by decide +kernel, by decide +kernel⟩
theorem lk__law_stop__law_box_here : (defScope s_law_stop).names.lookup ("_law_box_here" : Str) = some .local := by decide +kernel
theorem lk__law_stop__law_lower : (defScope s_law_stop).names.lookup ("_law_lower" : Str) = some .local := by decide +kernel
theorem lk__law_stop__law_upper : (defScope s_law_stop).names.lookup ("_law_upper" : Str) = some .local := by decide +kernel
theorem lk__law_stop__law_kind : (defScope s_law_stop).names.lookup ("_law_kind" : Str) = some .local := by decide +kernel
theorem gk__law_stop__law_draw : (defScope s_law_stop).names.lookup ("_law_draw" : Str) = some .globalImplicit := by decide +kernel
theorem gk__law_stop__law_add : (defScope s_law_stop).names.lookup ("_law_add" : Str) = some .globalImplicit := by decide +kernel
theorem gk__law_stop__law_frac : (defScope s_law_stop).names.lookup ("_law_frac" : Str) = some .globalImplicit := by decide +kernel
theorem gk__law_stop__law_fraction : (defScope s_law_stop).names.lookup ("_law_fraction" : Str) = some .globalImplicit := by decide +kernel
theorem has__law_stop (F : Fun K "_law_stop" "_law_stop" s_law_stop f fd) (m : mg "_law_stop" = some (.ref f)) (h_law_draw : Has P w K mg base "_law_draw" 1 ["_law_box_here", "_law_many"] (spB K Pd Rd)) (h_law_fraction : Has P w K mg base "_law_fraction" 2 ["_law_box_here"] (spB K Nil fun _ => isFx)) (h_law_frac : Has P w K mg base "_law_frac" 1 ["_law_top", "_law_bottom"] (spR K RFrac)) (h_law_add : Has P w K mg base "_law_add" 2 ["_law_one", "_law_other"] (spR K RAdd)) : Has P w K mg base "_law_stop" 3 ["_law_box_here"] (spB K Nil fun _ => isEl) :=
  has_of F m (F.binds fun _ _ _ _ _ _ us hl => match us, hl with | [_], _ => rfl) sc_law_stop (spB_len fun ds e => by rw [show ds = [] from e]; rfl) fun cdv A outer s H vs Q E hr h => by
    refine ⟨_, (pss_cons (ps_set (i := 1) sc_law_stop.nd rfl (Or.inl lk__law_stop__law_lower) (pe_c h_law_fraction (hr.mono (by decide)) gk__law_stop__law_fraction (pa_cons (pv 0 rfl (Or.inl lk__law_stop__law_box_here)) pa_nil))) (pss_cons (ps_set (i := 2) sc_law_stop.nd rfl (Or.inl lk__law_stop__law_upper) (pe_c h_law_add (hr.mono (by decide)) gk__law_stop__law_add (pa_cons (pv 1 rfl (Or.inl lk__law_stop__law_lower)) (pa_cons (pe_c h_law_frac (hr.mono (by decide)) gk__law_stop__law_frac (pa_cons (pe_c h_law_draw (hr.mono (by decide)) gk__law_stop__law_draw (pa_cons (pv 0 rfl (Or.inl lk__law_stop__law_box_here)) (pa_cons pe_int pa_nil))) (pa_cons pe_int pa_nil))) pa_nil)))) (pss_cons (ps_set (i := 3) sc_law_stop.nd rfl (Or.inl lk__law_stop__law_kind) (pe_c h_law_draw (hr.mono (by decide)) gk__law_stop__law_draw (pa_cons (pv 0 rfl (Or.inl lk__law_stop__law_box_here)) (pa_cons pe_int pa_nil)))) (pss_cons (ps_if (pt_cmpR (op_eqK (K := K) rfl hr.units) (pv 3 rfl (Or.inl lk__law_stop__law_kind)) pe_int (nomark _)) (pss_one (ps_ret (pe_tup (pa_cons pe_str (pa_cons pe_non (pa_cons (pv 2 rfl (Or.inl lk__law_stop__law_upper)) pa_nil)))))) pss_nil) (pss_cons (ps_if (pt_cmpR (op_eqK (K := K) rfl hr.units) (pv 3 rfl (Or.inl lk__law_stop__law_kind)) pe_int (nomark _)) (pss_one (ps_ret (pe_tup (pa_cons pe_str (pa_cons (pv 1 rfl (Or.inl lk__law_stop__law_lower)) (pa_cons pe_non pa_nil)))))) pss_nil) (pss_one (ps_ret (pe_tup (pa_cons pe_str (pa_cons (pv 1 rfl (Or.inl lk__law_stop__law_lower)) (pa_cons (pv 2 rfl (Or.inl lk__law_stop__law_upper)) pa_nil))))))))))), ?_⟩
    obtain ⟨B, ds, ws, G, sB, rfl, hw, rfl, q⟩ := h
    cases hw
    refine mqa (K := K) (B := B) (em_b rfl) sB fun v1 d1 G1 H1 e1 h1 ⟨x, ex, hx⟩ => ?_
    subst ex
    change tSeq _ _ _ [some (.ref B.b), some v1, none, none] H1
    have p8 : (10 : Nat) < 2 ^ e8 := Nat.lt_of_lt_of_le (by decide : (10 : Nat) < 2 ^ 4) (Nat.pow_le_pow_right (by decide) (by decide))
    refine mqa (K := K) (B := B) (em_call (R := fun d => ∃ y, d = fr y ∧ C 6 48 y) (ems_cons (evd_var rfl h1).m (ems_cons (em_call (R := fun d => ∃ y, d = fr y ∧ C 6 24 y) (ems_cons (em_d rfl (by decide)) (ems_cons em_int ems_nil)) ?_) ems_nil)) ?_) e1.en fun v2 d2 G2 H2 e2 h2 ⟨y, ey, hy⟩ => ?_
    · rintro ds ⟨_, _, rfl, ⟨i, rfl, h0, h1⟩, _, _, rfl, ⟨j, rfl, rfl⟩, rfl⟩
      exact ⟨_, ⟨i, 2, rfl, by decide, by omega, by omega, rfl⟩, _, rfl, half_of h0 h1⟩
    · rintro ds ⟨_, _, rfl, rfl, _, _, rfl, ⟨y, rfl, hy⟩, rfl⟩
      exact ⟨_, ⟨x, y, rfl, hx.1.b53.sz, hy.b53.sz, rfl⟩, _, rfl, (hx.1.add hy).mono (by decide)⟩
    subst ey
    change tSeq _ _ _ [some (.ref B.b), some v1, some v2, none] H2
    refine mqa (K := K) (B := B) (em_d rfl (by decide)) e2.en fun v3 d3 G3 H3 e3 h3 ⟨kd, ek, _⟩ => ?_
    subst ek
    have g1 := h1.mono (e2.trans e3).g
    have g2 := h2.mono e3.g
    have sx : ∀ z, (some x : Option Rat) = some z → C 6 48 z := fun z e => by cases e; exact hx.1.mono (by decide)
    have sy : ∀ z, (some y : Option Rat) = some z → C 6 48 z := fun z e => by cases e; exact hy
    have s0 : ∀ z, (none : Option Rat) = some z → C 6 48 z := fun z e => nomatch e
    change tSeq _ _ _ [some (.ref B.b), some v1, some v2, some v3] H3
    refine qi (eb_val (K := K) (evd_eqI (evd_var rfl h3) evd_int)) e3.en.sub fun G4 H4 e4 => ite_by (fun _ => ?_) fun _ => ?_
    · refine mret (K := K) (B := B) (evd_tup (es_cons evd_str (es_cons evd_non (es_cons (evd_var rfl (g2.mono e4.g)) es_nil)))) (e4.mt e3.en).en fun v5 G5 H5 e5 h5 => ?_
      exact q v5 _ G5 H5 ((((e1.trans e2).trans e3).trans (e4.mt e3.en)).trans e5) h5 ⟨.stop none (some y), rfl, ⟨s0, sy⟩, trivial⟩
    dsimp only [tNext]
    refine qi (eb_val (K := K) (evd_eqI (evd_var rfl (h3.mono e4.g)) evd_int)) e4.sub fun G5 H5 e5 => ite_by (fun _ => ?_) fun _ => ?_
    · refine mret (K := K) (B := B) (evd_tup (es_cons evd_str (es_cons (evd_var rfl (g1.mono (e4.trans e5).g)) (es_cons evd_non es_nil)))) ((e4.trans e5).mt e3.en).en fun v6 G6 H6 e6 h6 => ?_
      exact q v6 _ G6 H6 ((((e1.trans e2).trans e3).trans ((e4.trans e5).mt e3.en)).trans e6) h6 ⟨.stop (some x) none, rfl, ⟨sx, s0⟩, trivial⟩
    · dsimp only [tNext]
      refine mret (K := K) (B := B) (evd_tup (es_cons evd_str (es_cons (evd_var rfl (g1.mono (e4.trans e5).g)) (es_cons (evd_var rfl (g2.mono (e4.trans e5).g)) es_nil)))) ((e4.trans e5).mt e3.en).en fun v6 G6 H6 e6 h6 => ?_
      exact q v6 _ G6 H6 ((((e1.trans e2).trans e3).trans ((e4.trans e5).mt e3.en)).trans e6) h6 ⟨.stop (some x) (some y), rfl, ⟨sx, sy⟩, trivial⟩
abbrev s_law_element : Stmt := top 48
theorem sc_law_element : FnScope ["_law_box_here", "_law_kind"] ["_law_box_here"] (defScope s_law_element) := ⟨rfl, rfl, rfl, by decide +kernel, rfl, by decide +kernel, by decide +kernel⟩
theorem lk__law_element__law_box_here : (defScope s_law_element).names.lookup ("_law_box_here" : Str) = some .local := by decide +kernel
theorem lk__law_element__law_kind : (defScope s_law_element).names.lookup ("_law_kind" : Str) = some .local := by decide +kernel
theorem gk__law_element__law_stop : (defScope s_law_element).names.lookup ("_law_stop" : Str) = some .globalImplicit := by decide +kernel
theorem gk__law_element__law_nonzero : (defScope s_law_element).names.lookup ("_law_nonzero" : Str) = some .globalImplicit := by decide +kernel
theorem gk__law_element__law_fraction : (defScope s_law_element).names.lookup ("_law_fraction" : Str) = some .globalImplicit := by decide +kernel
theorem gk__law_element__law_draw : (defScope s_law_element).names.lookup ("_law_draw" : Str) = some .globalImplicit := by decide +kernel
theorem has__law_element (F : Fun K "_law_element" "_law_element" s_law_element f fd) (m : mg "_law_element" = some (.ref f)) (h_law_draw : Has P w K mg base "_law_draw" 1 ["_law_box_here", "_law_many"] (spB K Pd Rd)) (h_law_fraction : Has P w K mg base "_law_fraction" 2 ["_law_box_here"] (spB K Nil fun _ => isFx)) (h_law_nonzero : Has P w K mg base "_law_nonzero" 3 ["_law_box_here"] (spB K Nil fun _ => isNz)) (h_law_stop : Has P w K mg base "_law_stop" 3 ["_law_box_here"] (spB K Nil fun _ => isEl)) : Has P w K mg base "_law_element" 4 ["_law_box_here"] (spB K Nil fun _ => isEl) :=
  has_of F m (F.binds fun _ _ _ _ _ _ us hl => match us, hl with | [_], _ => rfl) sc_law_element (spB_len fun ds e => by rw [show ds = [] from e]; rfl) fun cdv A outer s H vs Q E hr h => by
    refine ⟨_, (pss_cons (ps_set (i := 1) sc_law_element.nd rfl (Or.inl lk__law_element__law_kind) (pe_c h_law_draw (hr.mono (by decide)) gk__law_element__law_draw (pa_cons (pv 0 rfl (Or.inl lk__law_element__law_box_here)) (pa_cons pe_int pa_nil)))) (pss_cons (ps_if (pt_cmpR op_ltI (pv 1 rfl (Or.inl lk__law_element__law_kind)) pe_int (nomark _)) (pss_one (ps_ret (pe_tup (pa_cons pe_str (pa_cons (pe_c h_law_fraction (hr.mono (by decide)) gk__law_element__law_fraction (pa_cons (pv 0 rfl (Or.inl lk__law_element__law_box_here)) pa_nil)) pa_nil))))) pss_nil) (pss_cons (ps_if (pt_cmpR op_ltI (pv 1 rfl (Or.inl lk__law_element__law_kind)) pe_int (nomark _)) (pss_one (ps_ret (pe_tup (pa_cons pe_str (pa_cons (pe_c h_law_fraction (hr.mono (by decide)) gk__law_element__law_fraction (pa_cons (pv 0 rfl (Or.inl lk__law_element__law_box_here)) pa_nil)) (pa_cons (pe_ix (ix_seqK (K := K) rfl) (pe_lst (pa_cons (pe_tup (pa_cons pe_int (pa_cons pe_int pa_nil))) (pa_cons (pe_c h_law_fraction (hr.mono (by decide)) gk__law_element__law_fraction (pa_cons (pv 0 rfl (Or.inl lk__law_element__law_box_here)) pa_nil)) pa_nil))) (pe_c h_law_draw (hr.mono (by decide)) gk__law_element__law_draw (pa_cons (pv 0 rfl (Or.inl lk__law_element__law_box_here)) (pa_cons pe_int pa_nil))) (fun _ _ => rfl)) pa_nil)))))) pss_nil) (pss_cons (ps_if (pt_cmpR (op_eqK (K := K) rfl hr.units) (pv 1 rfl (Or.inl lk__law_element__law_kind)) pe_int (nomark _)) (pss_one (ps_ret (pe_tup (pa_cons pe_str (pa_cons (pe_c h_law_fraction (hr.mono (by decide)) gk__law_element__law_fraction (pa_cons (pv 0 rfl (Or.inl lk__law_element__law_box_here)) pa_nil)) pa_nil))))) pss_nil) (pss_cons (ps_if (pt_cmpR (op_eqK (K := K) rfl hr.units) (pv 1 rfl (Or.inl lk__law_element__law_kind)) pe_int (nomark _)) (pss_one (ps_ret (pe_tup (pa_cons pe_str (pa_cons (pe_c h_law_nonzero (hr.mono (by decide)) gk__law_element__law_nonzero (pa_cons (pv 0 rfl (Or.inl lk__law_element__law_box_here)) pa_nil)) pa_nil))))) pss_nil) (pss_one (ps_ret (pe_c h_law_stop (hr.mono (by decide)) gk__law_element__law_stop (pa_cons (pv 0 rfl (Or.inl lk__law_element__law_box_here)) pa_nil))))))))), ?_⟩
    obtain ⟨B, ds, ws, G, sB, rfl, hw, rfl, q⟩ := h
    cases hw
    refine mqa (K := K) (B := B) (em_d rfl (by decide)) sB fun v1 d1 G1 H1 e1 h1 ⟨kd, ek, _⟩ => ?_
    subst ek
    change tSeq _ _ _ [some (.ref B.b), some v1] H1
    have two : ∀ {s : Str} {ta : TE} {σ G} {R : Ps}, EvM K B ta σ G R → EvM K B (tTup (tCons (tC (.str s)) (tCons ta tNil))) σ G (fun d => ∃ a, d = .tuple [.str s, a] ∧ R a) := fun h =>
      (em_tup (ems_cons evd_str.m (ems_cons h ems_nil)) (fun ds => by rintro ⟨_, _, rfl, _, _, _, rfl, _, rfl⟩; simp)).imp fun d => by rintro ⟨_, rfl, _, _, rfl, rfl, _, _, rfl, h, rfl⟩; exact ⟨_, rfl, h⟩
    refine qi (eb_val (K := K) (evd_lt (evd_var rfl h1) evd_int)) e1.en.sub fun G2 H2 e2 => ite_by (fun _ => ?_) fun _ => ?_
    · refine mr (K := K) (B := B) (two (em_b rfl)) (e2.mt e1.en).en fun v3 d3 G3 H3 e3 h3 ⟨_, ed, x, ex, hx⟩ => ?_
      subst ed ex
      exact q v3 _ G3 H3 ((e1.trans (e2.mt e1.en)).trans e3) h3 ⟨.gap x, rfl, hx.1, trivial⟩
    dsimp only [tNext]
    refine qi (eb_val (K := K) (evd_lt (evd_var rfl (h1.mono e2.g)) evd_int)) e2.sub fun G3 H3 e3 => ite_by (fun _ => ?_) fun _ => ?_
    · have mt := e1.trans ((e2.trans e3).mt e1.en)
      refine mr (K := K) (B := B) ((em_tup (ems_cons evd_str.m (ems_cons (em_b (R := isFx) rfl) (ems_cons (em_ixL (R := isFx) (em_lst (ems_cons (pair01 (a := 0) (b := 1)).m (ems_cons (em_b (R := isFx) rfl) ems_nil)) ?_) (em_d rfl (by decide)) ?_) ems_nil))) ?_).imp (R' := fun d => ∃ x y, d = .tuple [.str "lens", fr x, fr y] ∧ Fx x ∧ Fx y) ?_) mt.en fun v4 d4 G4 H4 e4 h4 ⟨x, y, ed, hx, hy⟩ => ?_
      · rintro ds ⟨_, _, rfl, _, _, _, rfl, _, rfl⟩; simp
      · rintro ds i ⟨_, _, rfl, rfl, _, _, rfl, h, rfl⟩ ⟨h0, h1⟩
        obtain rfl | rfl : i = 0 ∨ i = 1 := by omega
        · exact ⟨_, rfl, 0, rfl, fx_zero⟩
        · exact ⟨_, rfl, h⟩
      · rintro ds ⟨_, _, rfl, _, _, _, rfl, _, _, _, rfl, _, rfl⟩; simp
      · rintro d ⟨_, rfl, _, _, rfl, rfl, _, _, rfl, ⟨x, rfl, hx⟩, _, _, rfl, ⟨y, rfl, hy⟩, rfl⟩
        exact ⟨x, y, rfl, hx, hy⟩
      · subst ed
        exact q v4 _ G4 H4 (mt.trans e4) h4 ⟨.lens x y, rfl, ⟨hx.1, hy.1⟩, trivial⟩
    dsimp only [tNext]
    refine qi (eb_val (K := K) (evd_eqI (evd_var rfl (h1.mono (e2.trans e3).g)) evd_int)) e3.sub fun G4 H4 e4 => ite_by (fun _ => ?_) fun _ => ?_
    · have mt := e1.trans (((e2.trans e3).trans e4).mt e1.en)
      refine mr (K := K) (B := B) (two (em_b rfl)) mt.en fun v5 d5 G5 H5 e5 h5 ⟨_, ed, x, ex, hx⟩ => ?_
      subst ed ex
      exact q v5 _ G5 H5 (mt.trans e5) h5 ⟨.prism x, rfl, hx.1, trivial⟩
    dsimp only [tNext]
    refine qi (eb_val (K := K) (evd_eqI (evd_var rfl (h1.mono ((e2.trans e3).trans e4).g)) evd_int)) e4.sub fun G5 H5 e5 => ite_by (fun _ => ?_) fun _ => ?_
    · have mt := e1.trans ((((e2.trans e3).trans e4).trans e5).mt e1.en)
      refine mr (K := K) (B := B) (two (em_b rfl)) mt.en fun v5 d5 G5 H5 e5 h5 ⟨_, ed, x, ex, h0, hx, hy⟩ => ?_
      subst ed ex
      exact q v5 _ G5 H5 (mt.trans e5) h5 ⟨.afocal x, rfl, ⟨hx, hy⟩, h0⟩
    · dsimp only [tNext]
      have mt := e1.trans ((((e2.trans e3).trans e4).trans e5).mt e1.en)
      exact mr (K := K) (B := B) (em_b rfl) mt.en fun v5 d5 G5 H5 e5 h5 r5 => q v5 _ G5 H5 (mt.trans e5) h5 r5
theorem train_of : ∀ ds : List PyData, (∀ x ∈ ds, isEl x) → ∃ t : List El, ds = t.map El.dat ∧ ∀ e ∈ t, e.good
  | [], _ => ⟨[], rfl, fun _ h => nomatch h⟩
  | d :: ds, h => by
    obtain ⟨e, rfl, he⟩ := h d List.mem_cons_self
    obtain ⟨t, rfl, ht⟩ := train_of ds fun x hx => h x (List.mem_cons_of_mem _ hx)
    refine ⟨e :: t, rfl, fun y hy => ?_⟩
    rcases of_cons hy with rfl | hy
    · exact he
    · exact ht y hy
abbrev s_law_train : Stmt := top 49
theorem sc_law_train : FnScope ["_law_box_here", "_law_most", "_law_turn"] ["_law_box_here", "_law_most"] (defScope s_law_train) := ⟨rfl, rfl, rfl, by decide +kernel, rfl, by decide +kernel, by decide +kernel⟩
theorem lk__law_train__law_box_here : (defScope s_law_train).names.lookup ("_law_box_here" : Str) = some .cell := by decide +kernel
theorem lk__law_train__law_most : (defScope s_law_train).names.lookup ("_law_most" : Str) = some .local := by decide +kernel
theorem gk__law_train_range : (defScope s_law_train).names.lookup ("range" : Str) = some .globalImplicit := by decide +kernel
theorem gk__law_train__law_draw : (defScope s_law_train).names.lookup ("_law_draw" : Str) = some .globalImplicit := by decide +kernel
theorem has__law_train (F : Fun K "_law_train" "_law_train" s_law_train f fd) (m : mg "_law_train" = some (.ref f)) (zRange : mg "range" = none) (h_law_draw : Has P w K mg base "_law_draw" 1 ["_law_box_here", "_law_many"] (spB K Pd Rd)) (h_law_element : Has P w K mg base "_law_element" 4 ["_law_box_here"] (spB K Nil fun _ => isEl)) : Has P w K mg base "_law_train" 5 ["_law_box_here", "_law_most"] (spB K P8 fun _ => isTrain) :=
  has_of F m (F.binds fun _ _ _ _ _ _ us hl => match us, hl with | [_, _], _ => rfl) sc_law_train (spB_len fun ds e => by rw [show ds = [.int 8] from e]; rfl) fun cdv A outer s H vs Q E hr h => by
    refine ⟨_, (pss_one (ps_ret (pe_lc (own := [("_law_turn", 2)]) (g := (gName 2)) (tt := tYes) (by rfl) sc_law_train.nd (pi_range1 gk__law_train_range zRange (pa_cons (pe_c h_law_draw (hr.mono (by decide)) gk__law_train__law_draw (pa_cons (pv 0 rfl (Or.inr (Or.inl lk__law_train__law_box_here))) (pa_cons (pe_op (op_addK (K := K) rfl) (pv 1 rfl (Or.inl lk__law_train__law_most)) pe_int) pa_nil))) pa_nil)) (blkOk_by (own := [("_law_turn", 2)]) (N := ["_law_box_here", "_law_most", "_law_turn"]) (sc := defScope s_law_train) (by decide +kernel)) (fun _ _ _ _ _ => (pg_name (i := 2) sc_law_train.nd rfl (Or.inl rfl))) (fun _ _ _ _ _ => pts_nil) (fun _ _ _ _ _ => (pe_c h_law_element (hr.mono (by decide)) (by rfl) (pa_cons (pv 0) pa_nil)))))), ?_⟩
    obtain ⟨B, ds, ws, G, sB, rfl, hw, rfl, q⟩ := h
    obtain ⟨u, rfl, hu⟩ := hw.one
    refine mr (K := K) (B := B) (em_lcR (R := isEl) (Pn := fun n => n ≤ 8) ((em_draw (P := Pd) (R := Rd) rfl (es_cons (evd_add (i := 8) (j := 1) (evd_var rfl hu) evd_int) es_nil) ⟨_, rfl, by decide⟩).imp ?_) (fun n h => Nat.le_trans h (by decide)) (fun _ => rfl) fun v G1 s1 => em_b rfl) sB ?_
    · rintro d ⟨i, rfl, m, em, h0, h1⟩
      cases em
      obtain ⟨n, rfl⟩ := of_nat h0
      exact ⟨n, rfl, by omega⟩
    · rintro v d G' H' e h ⟨ds, rfl, hl, hd⟩
      obtain ⟨t, rfl, ht⟩ := train_of ds hd
      rw [List.length_map] at hl
      exact q v _ G' H' e h ⟨t, rfl, hl, ht⟩
abbrev s_law_ray : Stmt := top 50
theorem sc_law_ray : FnScope ["_law_box_here"] ["_law_box_here"] (defScope s_law_ray) := ⟨rfl, rfl, rfl, by decide +kernel, rfl, by decide +kernel, by decide +kernel⟩
theorem lk__law_ray__law_box_here : (defScope s_law_ray).names.lookup ("_law_box_here" : Str) = some .local := by decide +kernel
theorem gk__law_ray__law_fraction : (defScope s_law_ray).names.lookup ("_law_fraction" : Str) = some .globalImplicit := by decide +kernel
theorem has__law_ray (F : Fun K "_law_ray" "_law_ray" s_law_ray f fd) (m : mg "_law_ray" = some (.ref f)) (h_law_fraction : Has P w K mg base "_law_fraction" 2 ["_law_box_here"] (spB K Nil fun _ => isFx)) : Has P w K mg base "_law_ray" 3 ["_law_box_here"] (spB K Nil fun _ => isRay) :=
  has_of F m (F.binds fun _ _ _ _ _ _ us hl => match us, hl with | [_], _ => rfl) sc_law_ray (spB_len fun ds e => by rw [show ds = [] from e]; rfl) fun cdv A outer s H vs Q E hr h => by
    refine ⟨_, (pss_one (ps_ret (pe_tup (pa_cons (pe_c h_law_fraction (hr.mono (by decide)) gk__law_ray__law_fraction (pa_cons (pv 0 rfl (Or.inl lk__law_ray__law_box_here)) pa_nil)) (pa_cons (pe_c h_law_fraction (hr.mono (by decide)) gk__law_ray__law_fraction (pa_cons (pv 0 rfl (Or.inl lk__law_ray__law_box_here)) pa_nil)) pa_nil))))), ?_⟩
    obtain ⟨B, ds, ws, G, sB, rfl, hw, rfl, q⟩ := h
    cases hw
    refine mr (K := K) (B := B) (em_tup (ems_cons (em_b (R := isFx) rfl) (ems_cons (em_b (R := isFx) rfl) ems_nil)) ?_) sB ?_
    · rintro ds ⟨_, _, rfl, _, _, _, rfl, _, rfl⟩; simp
    · rintro v d G' H' e h ⟨_, rfl, _, _, rfl, ⟨x, rfl, hx⟩, _, _, rfl, ⟨y, rfl, hy⟩, rfl⟩
      exact q v _ G' H' e h ⟨(x, y), rfl, hx.1.b53.mono (by decide) (by decide), hy.1.b53.mono (by decide) (by decide)⟩
end
end Rt
namespace Rt
open PySem PySem.Spec PyProof.Rows L2 Evl
/-! ### what may be shown -/
structure Sh (n D : Nat) (d : PyData) : Prop where
  s : d.showable = true
  nd : d.hasDict = false
  lv : d.leavesShort 2000 = true
  dp : d.depth ≤ D
  bk : d.bulk ≤ n
theorem Sh.mono {n D m E : Nat} {d : PyData} (h : Sh n D d) (h1 : n ≤ m) (h2 : D ≤ E) : Sh m E d := ⟨h.s, h.nd, h.lv, Nat.le_trans h.dp h2, Nat.le_trans h.bk h1⟩
theorem Sh.int {i : Int} (h : i.natAbs < 2 ^ 1900) : Sh 0 0 (.int i) := by
  have hl : i.natAbs.log2 < 1920 := Nat.lt_of_lt_of_le (PySem.Flt.log2_lt_of (k := 1900) (by decide) h) (by decide)
  refine ⟨decide_eq_true hl, rfl, decide_eq_true ?_, Nat.le_refl _, Nat.le_refl _⟩
  have e := int_text_length_le (k := 1920) (by decide) hl
  show (Str.ofString (toString i)).length ≤ 2000
  rw [PySem.ofString_length]; omega
theorem sh_all {n D : Nat} : ∀ {xs : List PyData}, (∀ x ∈ xs, Sh n D x) → PyData.showableAll xs = true ∧ PyData.hasDictAll xs = false ∧ PyData.leavesShortAll 2000 xs = true ∧ PyData.depthAll xs ≤ D ∧ PyData.bulkAll xs ≤ xs.length * (n + 1)
  | [], _ => ⟨rfl, rfl, rfl, Nat.zero_le _, Nat.zero_le _⟩
  | x :: xs, h => by
    have a := h x List.mem_cons_self
    obtain ⟨b1, b2, b3, b4, b5⟩ := sh_all (xs := xs) fun y hy => h y (List.mem_cons_of_mem _ hy)
    refine ⟨?_, ?_, ?_, ?_, ?_⟩
    · show (PyData.showable x && PyData.showableAll xs) = true; rw [a.s, b1]; rfl
    · show (PyData.hasDict x || PyData.hasDictAll xs) = false; rw [a.nd, b2]; rfl
    · show (PyData.leavesShort 2000 x && PyData.leavesShortAll 2000 xs) = true; rw [a.lv, b3]; rfl
    · exact Nat.max_le.mpr ⟨a.dp, b4⟩
    · have := a.bk
      show PyData.bulk x + 1 + PyData.bulkAll xs ≤ (xs.length + 1) * (n + 1)
      rw [Nat.add_mul, Nat.one_mul]; omega
theorem Sh.lst {n D m : Nat} {xs : List PyData} (h : ∀ x ∈ xs, Sh n D x) (hm : xs.length ≤ m) : Sh (m * (n + 1)) (D + 1) (.list xs) := by
  obtain ⟨b1, b2, b3, b4, b5⟩ := sh_all h
  exact ⟨b1, b2, b3, Nat.succ_le_succ b4, Nat.le_trans b5 (Nat.mul_le_mul_right _ hm)⟩
theorem Sh.tup {n D m : Nat} {xs : List PyData} (h : ∀ x ∈ xs, Sh n D x) (hm : xs.length ≤ m) : Sh (m * (n + 1)) (D + 1) (.tuple xs) := by
  obtain ⟨b1, b2, b3, b4, b5⟩ := sh_all h
  exact ⟨b1, b2, b3, Nat.succ_le_succ b4, Nat.le_trans b5 (Nat.mul_le_mul_right _ hm)⟩
theorem Sh.len {d : PyData} (h : Sh 8000 9 d) : d.shown.length ≤ sizeLine := by
  have a := PyData.shown_le_bulk 2000 (by decide) d h.lv
  have b : (2000 + 2) * d.bulk ≤ (2000 + 2) * 8000 := Nat.mul_le_mul_left _ h.bk
  have c : sizeLine = 16777216 := by decide +kernel
  rw [c]; omega
theorem Sh.fr {x : Rat} (h : B 1900 1900 x) : Sh 2 1 (fr x) := by
  refine (Sh.tup (n := 0) (D := 0) (m := 2) (fun y hy => ?_) (by simp)).mono (by decide) (by decide)
  rcases of_cons hy with rfl | hy
  · exact .int h.1
  · rw [of_one hy]
    exact .int (by rw [Int.natAbs_natCast]; exact h.2)
theorem Sh.non {n D : Nat} : Sh n D .none := ⟨rfl, rfl, rfl, Nat.zero_le _, Nat.zero_le _⟩
theorem Sh.ofr {o : Option Rat} (h : ∀ x, o = some x → B 1900 1900 x) : Sh 2 1 (ofr o) := by
  cases o with
  | none => exact .non
  | some x => exact .fr (h x rfl)
theorem sh_ray {r : Ray} (h : RayB r) : Sh 6 2 (rayd r) := by
  refine (Sh.tup (n := 2) (D := 1) (m := 2) (fun y hy => ?_) (by simp)).mono (by decide) (by decide)
  rcases of_cons hy with rfl | hy
  · exact .fr (h.1.mono (by decide) (by decide))
  · rw [of_one hy]; exact .fr (h.2.mono (by decide) (by decide))
theorem sh_rays {rs : List Ray} (h : ∀ r ∈ rs, RayB r) (hl : rs.length ≤ 10) : Sh 70 3 (.list (rs.map rayd)) :=
  .lst (n := 6) (m := 10) (fun x hx => by obtain ⟨r, hr, rfl⟩ := of_map hx; exact sh_ray (h r hr)) (by rw [List.length_map]; exact hl)
theorem sh_kind {s : Str} (h : s = "gap" ∨ s = "lens" ∨ s = "prism" ∨ s = "afocal" ∨ s = "stop" ∨ s = "lower" ∨ s = "upper") : Sh 6 0 (.str s) := by
  rcases h with rfl | rfl | rfl | rfl | rfl | rfl | rfl <;> exact ⟨rfl, rfl, by decide +kernel, Nat.le_refl _, by decide +kernel⟩
theorem C.b19 {x : Rat} (h : C 6 48 x) : B 1900 1900 x := h.b63.mono (by decide) (by decide)
theorem C.b19' {x : Rat} (h : C 6 24 x) : B 1900 1900 x := h.b53.mono (by decide) (by decide)
theorem sh_el {e : El} (g : e.good) : Sh 24 2 e.dat := by
  have s := g.small
  have k : ∀ {s : Str} {y : PyData}, (s = "gap" ∨ s = "lens" ∨ s = "prism" ∨ s = "afocal" ∨ s = "stop" ∨ s = "lower" ∨ s = "upper") → Sh 6 1 y → Sh 24 2 (.tuple [.str s, y]) := fun hs hy => by
    refine (Sh.tup (n := 6) (D := 1) (m := 3) (fun z hz => ?_) (by simp)).mono (by decide) (by decide)
    rcases of_cons hz with rfl | hz
    · exact (sh_kind hs).mono (by decide) (by decide)
    · rw [of_one hz]; exact hy
  have k2 : ∀ {s : Str} {y u : PyData}, (s = "gap" ∨ s = "lens" ∨ s = "prism" ∨ s = "afocal" ∨ s = "stop" ∨ s = "lower" ∨ s = "upper") → Sh 6 1 y → Sh 6 1 u → Sh 24 2 (.tuple [.str s, y, u]) := fun hs hy hu => by
    refine (Sh.tup (n := 6) (D := 1) (m := 3) (fun z hz => ?_) (by simp)).mono (by decide) (by decide)
    rcases of_cons hz with rfl | hz
    · exact (sh_kind hs).mono (by decide) (by decide)
    · rcases of_cons hz with rfl | hz
      · exact hy
      · rw [of_one hz]; exact hu
  have u : ∀ {y}, Sh 2 1 y → Sh 6 1 y := fun h => h.mono (by decide) (by decide)
  cases e with
  | gap l => exact k (by simp) (u (.fr (C.b19' s)))
  | lens p c => exact k2 (by simp) (u (.fr (C.b19' s.1))) (u (.fr (C.b19' s.2)))
  | prism d => exact k (by simp) (u (.fr (C.b19' s)))
  | afocal m => exact k (by simp) (u (.fr (C.b19' s.1)))
  | stop lo hi => exact k2 (by simp) (u (.ofr fun x hx => (s.1 x hx).b19)) (u (.ofr fun x hx => (s.2 x hx).b19))
theorem sh_train {t : List El} (h : Good t) : Sh 200 3 (traind t) :=
  (Sh.lst (n := 24) (m := 8) (fun x hx => by obtain ⟨e, he, rfl⟩ := of_map hx; exact sh_el (h.2 e he)) (by rw [List.length_map]; exact h.1)).mono (by decide) (by decide)
theorem sh_pair {a b : PyData} (ha : Sh 200 3 a) (hb : Sh 200 3 b) : Sh 8000 9 (.tuple [a, b]) := by
  refine (Sh.tup (n := 200) (D := 3) (m := 2) (fun z hz => ?_) (by simp)).mono (by decide) (by decide)
  rcases of_cons hz with rfl | hz
  · exact ha
  · rw [of_one hz]; exact hb
theorem sh_up : Sh 5 0 (.str "upper") := ⟨rfl, rfl, by decide +kernel, Nat.le_refl _, by decide +kernel⟩
theorem sh_lo : Sh 5 0 (.str "lower") := ⟨rfl, rfl, by decide +kernel, Nat.le_refl _, by decide +kernel⟩
theorem sh_told {t : List El} {rs : List Ray} (h : Good t) (hr : ∀ r ∈ rs, RayB r) : Sh 8000 9 (.list ((told t rs).map told1)) := by
  have hE : (edges t).length ≤ 16 := Nat.le_trans (edgesFrom_len t 0) (by have := h.1; omega)
  refine (Sh.lst (n := 26) (D := 2) (m := 16) (fun x hx => ?_) (by rw [List.length_map]; unfold told; rw [List.length_map]; exact hE)).mono (by decide) (by decide)
  obtain ⟨y, hy, rfl⟩ := of_map hx
  obtain ⟨e, he, rfl⟩ := of_map hy
  obtain ⟨hi, hb⟩ := edge_small he h.2
  refine (Sh.tup (n := 12) (D := 1) (m := 2) (fun z hz => ?_) (by simp)).mono (by decide) (by decide)
  rcases of_cons hz with rfl | hz
  · refine (Sh.tup (n := 5) (D := 0) (m := 2) (fun z hz => ?_) (by simp)).mono (by decide) (by decide)
    rcases of_cons hz with rfl | hz
    · have h8 := h.1
      have : e.1 < 2 ^ 4 := by show e.1 < 16; omega
      exact (Sh.int (by rw [Int.natAbs_natCast]; exact Nat.lt_of_lt_of_le this (Nat.pow_le_pow_right (by decide) (by decide)))).mono (by decide) (by decide)
    · rw [of_one hz]
      obtain ⟨i, up, q⟩ := e
      cases up with
      | true => exact sh_up
      | false => exact sh_lo
  · rw [of_one hz]
    refine (Sh.ofr fun x hx => ?_).mono (by decide) (by decide)
    obtain ⟨r, hr', rfl⟩ := of_map (least_some hx).1
    exact (clr_bits h hb (hr r hr')).mono (by decide) (by decide)
/-! ### repr -/
def rRepr (K : PySem.W.Frag) : List V → Hp → VK → Prop := fun xs H Q => ∃ (a : Addr) (d : PyData), xs = [.ref a] ∧ Dp K H (.ref a) d ∧ Sh 8000 9 d ∧ Q (.str d.shown) H
theorem call_repr {X : Cx} {K : PySem.W.Frag} (hK : X.K = K) (hg : X.A.guards = some []) (hu : X.A.units + 64 < cLine) : CallR X (.builtin "repr") (rRepr K) := by
  subst hK
  intro pn st sl H xs us Q I r h
  obtain ⟨a, d, rfl, hd, sh, q⟩ := h
  cases r with
  | cons r1 r2 =>
    cases r2
    cases r1
    obtain ⟨as, rd⟩ := Dp.reads I d _ _ hd rfl
    refine repr_of_reads' rd sh.s (PyData.noDict_hsm sh.nd) hg (by have := sh.dp; omega) (fun _ _ e => e) (fun h' u tk hk => ?_) sh.len
    exact ⟨.str d.shown, H, I.kept hk, ⟨u, rfl⟩, q⟩
section
variable {K : PySem.W.Frag} {G : Hp} {σ : L2.St} {te : TE} {d : PyData}
theorem evd_repr (h : EvD K te σ G d) (hr : ∀ G v, Is K G v d → ∃ a, v = .ref a) (sh : Sh 8000 9 d) : EvD K (tCB (rRepr K) (tCons te tNil)) σ G (.str d.shown) :=
  evd_cb (es_cons h es_nil) fun vs G1 H1 s hv Q q => by
    obtain ⟨v, rfl, hd⟩ := hv.one
    obtain ⟨a, rfl⟩ := hr _ _ hd
    exact ⟨a, d, rfl, (hd.mono s).dp, sh, q _ _ _ (Ext.refl s) (.str _)⟩
end
/-! ### a def that asks what is under way: its promise where no guard stands -/
structure GOk (P : Program) (w : World) (K : PySem.W.Frag) (mg : Str → Option Value) (base : Heap) (CX : CXT) (k : Nat) (f : Addr) (fd : FuncData) (ps : List Str) (sp : Sp) : Prop where
  size : ∀ vs H Q E, sp vs H Q E → vs.length = ps.length
  go : ∀ (A : Around) (outer : List Env) (s : Shared) (H : Hp) (us : List Value) (vs : List V) (Q : VK) (E : XK), A.guards = some [] → Room k A → Env0 P w K mg base A outer s H → BindsTo s fd ⟨us, []⟩ (ps.zip us) → Vals vs us → sp vs H Q E → codeAny (model P w) A (.call (.ref f) ⟨us, []⟩) (CR CX outer P w H s Q E) s
theorem gOk_of {P : Program} {w : World} {K : PySem.W.Frag} {mg : Str → Option Value} {base : Heap} {k : Nat} {x : Str} {st : Stmt} {f : Addr} {fd : FuncData} {N ps : List Str} {sp : Sp} (F : Fun K x x st f fd) (S : FnScope N ps (defScope st)) (hs : ∀ vs H Q E, sp vs H Q E → vs.length = ps.length)
    (body : ∀ (cd : Value) (A : Around) (outer : List Env) (s : Shared) (H : Hp) (E : XK), A.guards = some [] → Room k (A.deeper (envOfC x (defScope st) s.heap.objs.size f cd)) →
      ∃ t, PSs (cxOf CX0 P w K mg base N x (defScope st) f cd A outer s H E).nox (defBody st) t ∧ ∀ (vs : List V) (Q : VK), sp vs H Q E → t { nx := fun _ H' => Q .non H', rt := Q } (start N vs) H) : GOk P w K mg base CX0 (k + 1) f fd ps sp := by
  obtain ⟨oc, od, kw, dc, pmv, ann, cd, ctv, slots, rfl, found, code⟩ := F.ex
  refine ⟨hs, fun A outer s H us vs Q E guard room here binds vals promise => ?_⟩
  refine Att.call_fn (here.mod.kin.keeps fun b o q => (here.bs b o q).1) (here.mod.nolimit.keeps fun b o q => (here.bs b o q).1) found code room.depth binds (List.all_eq_true.mpr fun y hy => ?_) (fun s1 entered => ?_) S.co S.gen S.kind
  · rcases S.par y.1 (List.of_mem_zip hy).1 with q | q <;> rw [q] <;> rfl
  · obtain ⟨t, derived, reading⟩ := body cd A outer s H E guard (room.deeper _)
    have begun := inv_start (CX := CX0) (E := E) S room.hd here (hs _ _ _ _ promise) vals entered
    refine wpAny_mono (derived.nox.run [] s1 (start N vs) H _ begun (reading vs Q promise)) (fun how s' told => ?_) fun _ _ bad => bad
    cases how with
    | brk => obtain ⟨_, _, _, no⟩ := told; exact no.elim
    | cont => obtain ⟨_, _, _, no⟩ := told; exact no.elim
    | next =>
      obtain ⟨_, H2, J, q⟩ := told
      exact ⟨.non, H2, J.os, J.bare, J.base, J.hok, rfl, q⟩
    | ret u =>
      obtain ⟨v, _, H2, J, rel, q⟩ := told
      exact ⟨v, H2, J.os, J.bare, J.base, J.hok, rel, q⟩
/-- such a def at its name -/
structure HasG (P : Program) (w : World) (K : PySem.W.Frag) (mg : Str → Option Value) (base : Heap) (x : Str) (k : Nat) (ps : List Str) (sp : Sp) : Prop where
  ex : ∃ f fd, GOk P w K mg base CX0 k f fd ps sp ∧ mg x = some (.ref f) ∧ PySem.W.keepIn K (.ref f) = true ∧ Binds K fd ps []
theorem pe_cG {X : Cx} {x : Str} {k : Nat} {ps : List Str} {sp : Sp} {e : Expr} {es : List Expr} {p pos : Pos} {t : TA} (has : HasG X.prog X.w X.K X.mg X.base x k ps sp) (free : X.A.guards = some []) (room : Room k X.A) (seen : Gl X x) (ha : PA X (e :: es) t) (dbg : (x == ("__debug__" : Str)) = false := by decide)
    (star : starEach (e :: es) X.env = (false, eval e X.env) :: starEach es X.env := by rfl) (flat : (backTo pos (starEach es X.env)).any (·.1) = false := by rfl) : PE X (.Call (.Name x p) (e :: es) [] pos) (tCall sp [] E0 t) := by
  obtain ⟨f, fd, F, at_, keep, binds⟩ := has.ex
  refine ⟨fun pins s σ H Q I h => wpAny_Call_Name_kw (ld_glob I seen at_ ?_ dbg)⟩
  refine PySem.W.callWith_K (h₀ := X.base) I.ok.mod.kin keep (thn (ha.run pos pins s σ H _ I h) ?_) star flat
  rintro us s1 ⟨vs, H1, J, vals, want⟩
  rw [List.append_nil] at want
  have many : (us ++ ([] : List Value)).length = ps.length := by rw [List.append_nil, ← vals.length]; exact F.size _ _ _ _ want
  have bound := binds s1 us J.kIn many
  rw [List.append_nil] at bound
  refine ⟨J.kIn, wpAny_call (codeAny_mono (F.go X.A X.stack s1 H1 us vs Q E0 free room J.env0 bound vals want) fun got s' told => ?_)⟩
  match got, told with
  | .ok (.ret u), told => exact J.after told
  | .ok .next, told => exact told.elim
  | .ok .brk, told => exact told.elim
  | .ok .cont, told => exact told.elim
  | .error e, told => exact told.elim
section
variable {w : World} {P : Program} {K : PySem.W.Frag} {mg : Str → Option Value} {base : Heap} {f : Addr} {fd : FuncData}
/-- the same or not: two data that can be shown -/
def isRef : PyData → Bool
  | .list _ => true
  | .tuple (_ :: _) => true
  | _ => false
def RSame : Rl := fun ds r => ∃ a, ds = [.list a, .list a] ∧ Sh 8000 9 (.list a) ∧ r = .bool true
abbrev s_law_same : Stmt := top 35
theorem sc_law_same : FnScope ["_law_one", "_law_other"] ["_law_one", "_law_other"] (defScope s_law_same) := ⟨rfl, rfl, rfl, by decide +kernel, rfl, by decide +kernel, by decide +kernel⟩
theorem lk__law_same__law_one : (defScope s_law_same).names.lookup ("_law_one" : Str) = some .local := by decide +kernel
theorem lk__law_same__law_other : (defScope s_law_same).names.lookup ("_law_other" : Str) = some .local := by decide +kernel
theorem gk__law_same_repr : (defScope s_law_same).names.lookup ("repr" : Str) = some .globalImplicit := by decide +kernel
theorem has__law_same (F : Fun K "_law_same" "_law_same" s_law_same f fd) (m : mg "_law_same" = some (.ref f)) (zRepr : mg "repr" = none) : HasG P w K mg base "_law_same" 1 ["_law_one", "_law_other"] (spR K RSame) := by
  refine ⟨f, fd, gOk_of F sc_law_same (fun vs H Q E ⟨ds, r, G, _, hv, ⟨a, e, _⟩, _⟩ => by rw [hv.length, e]; rfl) fun cd A outer s H E hg hr => ⟨_, (pss_one (ps_ret (pe_cmpR (op_eqK (K := K) rfl hr.units) (pe_callB (call_repr (K := K) rfl hg hr.units) gk__law_same_repr zRepr (by decide +kernel) (pa_cons (pv 0 rfl (Or.inl lk__law_same__law_one)) pa_nil)) (pe_callB (call_repr (K := K) rfl hg hr.units) gk__law_same_repr zRepr (by decide +kernel) (pa_cons (pv 1 rfl (Or.inl lk__law_same__law_other)) pa_nil)) (nomark _)))), ?_⟩, m, F.kp, (F.binds fun _ _ _ _ _ _ us hl => match us, hl with | [_, _], _ => rfl)⟩
  rintro vs Q ⟨ds, r, G, sG, hv, ⟨a, rfl, sh, rfl⟩, q⟩
  obtain ⟨v, u, rfl, h1, h2⟩ := hv.two
  have isr : ∀ G v, Is K G v (.list a) → ∃ b, v = .ref b := fun G v h => by obtain ⟨b, _, e, _⟩ := h.lstIn; exact ⟨b, e⟩
  exact sr ((evd_eqS (evd_repr (evd_var (σ := [some v, some u]) (i := 0) rfl h1) isr sh) (evd_repr (evd_var (i := 1) rfl h2) isr sh)).to (by rw [decide_eq_true rfl])) sG q
end
end Rt
namespace Rt
open PySem PySem.Spec PyProof.Rows L2 Evl
/-! ### what is blocked -/
theorem lt_sub {a b : Rat} : a - b < 0 ↔ a < b := by constructor <;> intro h <;> grind
theorem exit_from : ∀ (suf pre : List El) (r : Ray), exitR suf (out pre r) = none ↔ ∃ e ∈ edgesFrom pre.length suf, clr (pre ++ suf) e r < 0
  | [], pre, r => ⟨fun h => (by cases h), fun ⟨_, h, _⟩ => (by cases h)⟩
  | a :: suf, pre, r => by
    have ih := exit_from suf (pre ++ [a]) r
    rw [List.length_append, List.length_singleton, List.append_assoc, List.singleton_append] at ih
    have ho : out (pre ++ [a]) r = a.go (out pre r) := by unfold out; rw [List.foldl_append]; rfl
    rw [ho] at ih
    have hx : ∀ up h, clr (pre ++ a :: suf) (pre.length, up, h) r = if up then h - (out pre r).1 else (out pre r).1 - h := fun up h => by
      unfold clr
      show (if up = true then h - ((transfer ((pre ++ a :: suf).take pre.length)).app r).1 else ((transfer ((pre ++ a :: suf).take pre.length)).app r).1 - h) = _
      rw [List.take_left, ← out_eq]
    have hb : blocks a (out pre r) = true ↔ ∃ e ∈ edgesAt pre.length a, clr (pre ++ a :: suf) e r < 0 := by
      cases a with
      | stop lo hi =>
        show (ltO lo (out pre r).1 || gtO hi (out pre r).1) = true ↔ ∃ e ∈ (lo.toList.map fun x => (pre.length, false, x)) ++ (hi.toList.map fun x => (pre.length, true, x)), _
        rw [Bool.or_eq_true]
        constructor
        · rintro (h | h)
          · cases lo with
            | none => cases h
            | some x => exact ⟨_, List.mem_append_left _ List.mem_cons_self, by rw [hx]; exact lt_sub.mpr (of_decide_eq_true h)⟩
          · cases hi with
            | none => cases h
            | some x => exact ⟨_, List.mem_append_right _ List.mem_cons_self, by rw [hx]; exact lt_sub.mpr (of_decide_eq_true h)⟩
        · rintro ⟨e, he, hc⟩
          rcases of_append he with he | he
          · cases lo with
            | none => cases he
            | some x =>
              rw [of_one he, hx] at hc
              exact .inl (decide_eq_true (lt_sub.mp hc))
          · cases hi with
            | none => cases he
            | some x =>
              rw [of_one he, hx] at hc
              exact .inr (decide_eq_true (lt_sub.mp hc))
      | gap _ => exact ⟨fun h => (by cases h), fun ⟨_, h, _⟩ => (by cases h)⟩
      | lens _ _ => exact ⟨fun h => (by cases h), fun ⟨_, h, _⟩ => (by cases h)⟩
      | prism _ => exact ⟨fun h => (by cases h), fun ⟨_, h, _⟩ => (by cases h)⟩
      | afocal _ => exact ⟨fun h => (by cases h), fun ⟨_, h, _⟩ => (by cases h)⟩
    show (if blocks a (out pre r) then none else exitR suf (a.go (out pre r))) = none ↔ ∃ e ∈ edgesAt pre.length a ++ edgesFrom (pre.length + 1) suf, clr (pre ++ a :: suf) e r < 0
    by_cases h : blocks a (out pre r) = true
    · rw [if_pos h]
      obtain ⟨e, he, hc⟩ := hb.mp h
      exact ⟨fun _ => ⟨e, List.mem_append_left _ he, hc⟩, fun _ => rfl⟩
    · rw [if_neg h, ih]
      constructor
      · rintro ⟨e, he, hc⟩; exact ⟨e, List.mem_append_right _ he, hc⟩
      · rintro ⟨e, he, hc⟩
        rcases of_append he with he | he
        · exact absurd (hb.mpr ⟨e, he, hc⟩) h
        · exact ⟨e, he, hc⟩
theorem exit_none {t : List El} {r : Ray} : exitR t r = none ↔ ∃ e ∈ edges t, clr t e r < 0 := exit_from t [] r
def isNeg (x : Edge × Option Rat) : Bool := match x.2 with
  | some y => decide (y.num < 0)
  | none => false
theorem num_lt {y : Rat} : y.num < 0 ↔ y < 0 := num_neg
/-- no ray is blocked, or some clearance is below 0 -/
theorem blocked_iff {t : List El} {rs : List Ray} : (rs.filter fun r => (exitR t r).isNone) = [] ↔ ((told t rs).filter isNeg) = [] := by
  rw [List.filter_eq_nil_iff, List.filter_eq_nil_iff]
  constructor
  · intro h x hx hn
    obtain ⟨e, he, rfl⟩ := of_map hx
    cases ho : leastR (rs.map (clr t e)) with
    | none => unfold isNeg at hn; rw [ho] at hn; cases hn
    | some y =>
      unfold isNeg at hn
      rw [ho] at hn
      obtain ⟨r, hr, rfl⟩ := of_map (least_some ho).1
      have : exitR t r = none := exit_none.mpr ⟨e, he, num_lt.mp (of_decide_eq_true hn)⟩
      exact h r hr (by rw [this]; rfl)
  · intro h r hr hn
    have he : exitR t r = none := Option.isNone_iff_eq_none.mp hn
    obtain ⟨e, he, hc⟩ := exit_none.mp he
    cases ho : leastR (rs.map (clr t e)) with
    | none =>
      rw [least_nil, List.map_eq_nil_iff] at ho
      rw [ho] at hr; cases hr
    | some y =>
      have hy := (least_some ho).2 _ (List.mem_map.mpr ⟨r, hr, rfl⟩)
      refine h _ (List.mem_map.mpr ⟨e, he, rfl⟩) ?_
      unfold isNeg
      rw [ho]
      refine decide_eq_true (num_lt.mpr ?_)
      grind
/-! ### a caught error's class -/
theorem kit_ref {K : PySem.W.Frag} {N S : Addr} {b : Bool} (h0 : (Value.ref N == Value.ref S) = false) (h2 : PySem.W.isClsIn K S = true) (h3 : PySem.W.typeIn K (.ref S) = some (.type "type")) (h4 : PySem.W.subIn K (.ref N) (.ref S) = some b) : PySem.W.kitOne K (.ref N) (.ref S) = some b := by
  unfold PySem.W.kitOne
  rw [if_neg (by rw [h0]; exact Bool.false_ne_true)]
  have isC : (PySem.W.clsIn K S).isSome = true := h2
  show (if ((PySem.W.clsIn K S).isSome && PySem.W.typeIn K (.ref S) == some (.type "type")) = true then PySem.W.subIn K (.ref N) (.ref S) else none) = some b
  rw [if_pos (by rw [isC, h3]; rfl)]
  exact h4
theorem kit_own {K : PySem.W.Frag} {N : Addr} : PySem.W.kitOne K (.ref N) (.ref N) = some true := by
  unfold PySem.W.kitOne
  have e : (Value.ref N == Value.ref N) = true := by
    first | exact beq_self_eq_true _ | simp | (show decide (N = N) = true; exact decide_eq_true rfl)
  rw [if_pos e]
theorem kit_ty {K : PySem.W.Frag} {N : Addr} {T : String} {b : Bool} (h1 : PySem.W.kitMeta T = true) (h4 : PySem.W.subIn K (.ref N) (.type T) = some b) : PySem.W.kitOne K (.ref N) (.type T) = some b := by
  unfold PySem.W.kitOne
  rw [if_neg (fun h => by cases h)]
  show (if PySem.W.kitMeta T = true then PySem.W.subIn K (.ref N) (.type T) else none) = some b
  rw [if_pos h1]
  exact h4
/-- a reading under a premise -/
def tGiven (p : Prop) (t : TS) : TS := fun D σ H => p ∧ t D σ H
theorem pss_given {X : Cx} {b : List Stmt} {p : Prop} {t : TS} (h : p → PSs X b t) : PSs X b (tGiven p t) := ⟨fun pins s σ H D I ⟨hp, ht⟩ => (h hp).run pins s σ H D I ht⟩
def RRef : Rl := fun ds r => ∃ t, ds = [traind t] ∧ Good t ∧ r = .bool true
structure Err (K : PySem.W.Frag) (mg : Str → Option Value) (cN cR cS cE : Addr) : Prop where
  N : mg "NoRays" = some (.ref cN)
  R : mg "RaytrainError" = some (.ref cR)
  S : mg "CannotShift" = some (.ref cS)
  E : mg "NoSuchElement" = some (.ref cE)
  V : mg "ValueError" = none
  I : mg "isinstance" = none
  c : ExcC K cN
  x : PySem.W.exmOne K (.ref cN) (.ref cR) = some true
  oS : PySem.W.kitOne K (.ref cN) (.ref cS) = some false
  oE : PySem.W.kitOne K (.ref cN) (.ref cE) = some false
  oV : PySem.W.kitOne K (.ref cN) (.type "ValueError") = some true
section
variable {w : World} {P : Program} {K : PySem.W.Frag} {mg : Str → Option Value} {base : Heap} {f : Addr} {fd : FuncData}
abbrev s_law_refuses : Stmt := top 65
theorem sc_law_refuses : FnScope ["_law_train_here", "_law_e"] ["_law_train_here"] (defScope s_law_refuses) := ⟨rfl, rfl, rfl, by decide +kernel, rfl, by decide +kernel, by decide +kernel⟩
theorem lk__law_refuses__law_train_here : (defScope s_law_refuses).names.lookup ("_law_train_here" : Str) = some .local := by decide +kernel
theorem lk__law_refuses__law_e : (defScope s_law_refuses).names.lookup ("_law_e" : Str) = some .local := by decide +kernel
theorem gr_clear : (defScope s_law_refuses).names.lookup ("clearances" : Str) = some .globalImplicit := by decide +kernel
theorem gr_is : (defScope s_law_refuses).names.lookup ("isinstance" : Str) = some .globalImplicit := by decide +kernel
theorem gr_R : (defScope s_law_refuses).names.lookup ("RaytrainError" : Str) = some .globalImplicit := by decide +kernel
theorem gr_N : (defScope s_law_refuses).names.lookup ("NoRays" : Str) = some .globalImplicit := by decide +kernel
theorem gr_S : (defScope s_law_refuses).names.lookup ("CannotShift" : Str) = some .globalImplicit := by decide +kernel
theorem gr_E : (defScope s_law_refuses).names.lookup ("NoSuchElement" : Str) = some .globalImplicit := by decide +kernel
theorem gr_V : (defScope s_law_refuses).names.lookup ("ValueError" : Str) = some .globalImplicit := by decide +kernel
abbrev tIs (K : PySem.W.Frag) (C a : Addr) (v : V) : TE := tCB (rIsE K C a) (tCons (tVar 1) (tCons (tC v) tNil))
theorem has__law_refuses (F : Fun K "_law_refuses" "_law_refuses" s_law_refuses f fd) (m : mg "_law_refuses" = some (.ref f)) {cN cR cS cE : Addr} (T : Err K mg cN cR cS cE) (hclearances : HasX P w K mg base "clearances" 8 ["train", "rays"] (spClears K cN)) : Has P w K mg base "_law_refuses" 9 ["_law_train_here"] (spR K RRef) := by
  obtain ⟨f', fd', F', m', kp', b'⟩ := hclearances.ex
  refine has_pure F m (F.binds fun _ _ _ _ _ _ us hl => match us, hl with | [_], _ => rfl) sc_law_refuses (fun ds r ⟨_, e, _⟩ => by rw [e]; rfl) fun cdv A outer s H E hr => ?_
  refine ⟨_, (pss_cons (ps_try_as (i := 1) (tb := fun W => tDrop (tCallS (spClears K cN) (WE W) (tCons (tVar 0) (tCons (tLst tNil) tNil))))
      (ts := fun a cls d => tGiven (cls = .ref cN ∧ d = none) (tRet (tAndV (tIs K cN a (.ref cN)) (tAndV (tIs K cN a (.ty "ValueError")) (tAndV (tNotV (tIs K cN a (.ref cS))) (tNotV (tIs K cN a (.ref cE))))))))
      (Wout := fun _ _ _ _ => False) rfl rfl sc_law_refuses.nd rfl lk__law_refuses__law_e ⟨gr_R, by decide, Or.inl T.R⟩ takes0
      (fun W pn xe tk _ => pss_one (ps_expr (pe_callS F' (hr.mono (by decide)) gr_clear m' kp' b' (fun σ => passAt tk σ) (pa_cons (pv 0 rfl (Or.inl lk__law_refuses__law_train_here)) (pa_cons (pe_lst pa_nil) pa_nil)))))
      (fun a oe cls d pn hz hf => pss_given fun hc => pss_one (ps_ret (pe_and (pe_callB (call_isE T.c (by rw [hc.1, hc.2] at hz; exact hz) hf) gr_is T.I (by decide +kernel) (pa_cons (pv 1 rfl (Or.inl lk__law_refuses__law_e)) (pa_cons (pe_glob gr_N T.N rfl) pa_nil)))
        (pe_and (pe_callB (call_isE T.c (by rw [hc.1, hc.2] at hz; exact hz) hf) gr_is T.I (by decide +kernel) (pa_cons (pv 1 rfl (Or.inl lk__law_refuses__law_e)) (pa_cons (pe_bltn gr_V T.V (by decide +kernel) rfl) pa_nil)))
        (pe_and (pe_not (pe_callB (call_isE T.c (by rw [hc.1, hc.2] at hz; exact hz) hf) gr_is T.I (by decide +kernel) (pa_cons (pv 1 rfl (Or.inl lk__law_refuses__law_e)) (pa_cons (pe_glob gr_S T.S rfl) pa_nil))))
        (pe_one (pe_not (pe_callB (call_isE T.c (by rw [hc.1, hc.2] at hz; exact hz) hf) gr_is T.I (by decide +kernel) (pa_cons (pv 1 rfl (Or.inl lk__law_refuses__law_e)) (pa_cons (pe_glob gr_E T.E rfl) pa_nil)))))))))))
      (pss_one (ps_ret pe_bl))), fun vs ds r G Q sG hv hR q => ?_⟩
  obtain ⟨t, rfl, ht, rfl⟩ := hR
  obtain ⟨v, rfl, h1⟩ := hv.one
  dsimp only [tSeq, tDrop, tCallS]
  change tCons (tVar 0) (tCons (tLst tNil) tNil) [some v, none] H _
  refine es_cons (K := K) (evd_var (σ := [some v, none]) (i := 0) rfl h1) (es_cons (evd_lst es_nil) es_nil) G H (Ex.refl _) sG _ fun vs G2 H2 e2 h2 => ?_
  refine ⟨t, [], G2, e2.sub, h2, ht, Nat.zero_le _, (fun y hy => nomatch hy), (fun n => absurd rfl n), fun _ G3 H3 e3 => ?_⟩
  refine ⟨true, T.x, fun _ a ha => ⟨⟨rfl, rfl⟩, ?_⟩, fun z => nomatch z⟩
  refine ⟨.ref a, rfl, .ref cN, .ref cN, true, rfl, fun u r => r, kit_own, true, rfl, iteT ?_⟩
  refine ⟨.ref a, rfl, .ty "ValueError", .type "ValueError", true, rfl, fun u r => r, T.oV, true, rfl, iteT ?_⟩
  refine ⟨.ref a, rfl, .ref cS, .ref cS, false, rfl, fun u r => r, T.oS, false, rfl, true, rfl, iteT ?_⟩
  refine ⟨.ref a, rfl, .ref cE, .ref cE, false, rfl, fun u r => r, T.oE, false, rfl, ?_⟩
  exact q _ G3 H3 (e2.trans e3) (.bl _)
end
end Rt
namespace Rt
open PySem PySem.Spec PyProof.Rows L2 Evl
section
variable {K : PySem.W.Frag} {B : Bx} {G H : Hp} {σ : L2.St} {te ta tb : TE} {tt : TT} {tl : TA} {C : Addr} {E : XK}
/-- [e for x in xs if t], e a fixed int -/
theorem evd_lcFm {tl : TE} {j : Nat} {vs : List Nat} {α : Type} {xs : List α} (d : α → PyData) (p : α → Bool) (z : Int) (h : EvD K tl σ G (.list (xs.map d))) (hz : xs.length ≤ 100000) (hw : ∀ x, wipe ((wipe σ vs).set j (some x)) vs = wipe σ vs)
    (ht : ∀ (a : α) (v : V) G1, Ex G G1 → a ∈ xs → Is K G1 v (d a) → EvB tt ((wipe σ vs).set j (some v)) G1 (p a)) :
    EvD K (tLc (iList K tl) (gName j) tt (tC (.int z)) vs) σ G (.list ((xs.filter p).map fun _ => .int z)) := fun G1 H1 e1 s Q q => h G1 H1 e1 s _ fun v G2 H2 e2 h2 => by
  obtain ⟨a, ys, rfl, hx, hs⟩ := h2.lstIn
  refine ⟨a, rfl, ⟨ys, SqL.of (e2.sub _ _ hx)⟩, fun D hD => ?_⟩
  have gD : G2 D = none := fresh_back e2.sub hD
  have hlen : ys.length = xs.length := by rw [hs.length, List.length_map]
  refine lc_list (K := K) (a := a) (xs := ys) (fun i H' => ∃ (G' : Hp) (acc : List V), Ext G2 H2 G' H' ∧ G' D = none ∧ H' D = some (.lst acc) ∧ acc.length ≤ i ∧ IsAll K G' acc (((xs.take i).filter p).map fun _ => .int z)) ?_ (fun i H' _ ⟨G', _, e, _⟩ => SqL.of (e.h _ _ (e2.sub _ _ hx))) ?_ ?_
  · exact ⟨G2, [], (Ext.refl e2.sub).mut hD gD, gD, upd_same, Nat.le_refl _, .nil⟩
  · intro m x H' hm ⟨G', acc, ex, gD', hacc, hl, hall⟩
    obtain ⟨d', hd, hxd⟩ := (hs.mono ex.g).at hm
    rw [List.getElem?_map] at hd
    cases hp : xs[m]? with
    | none => rw [hp] at hd; cases hd
    | some a' =>
      rw [hp] at hd
      obtain rfl := (Option.some.inj hd)
      have hmz : m < xs.length := (List.getElem?_eq_some_iff.mp hp).1
      refine ⟨hw x, ht a' x G' ((e1.trans e2.g).trans ex.g) (List.mem_of_getElem? hp) hxd G' H' (Ex.refl _) ex.sub _ fun G4 H4 e4 => ?_⟩
      have a4 := e4.h _ _ hacc
      have g4 : G4 D = none := e4.unseen gD' hacc
      rw [take_snoc hp, List.filter_append]
      cases hpa : p a' with
      | false =>
        refine iteF ⟨G4, acc, ex.trans e4, g4, a4, by omega, ?_⟩
        rw [List.filter_cons_of_neg (by rw [hpa]; exact Bool.false_ne_true), List.filter_nil, List.append_nil]
        exact hall.mono e4.g
      | true =>
        refine iteT ⟨acc, a4, sz_lt (by omega), G4, acc ++ [.int z], (ex.trans e4).mut hD g4, g4, upd_same, by rw [List.length_append, List.length_singleton]; omega, ?_⟩
        rw [List.filter_cons_of_pos hpa, List.filter_nil, List.map_append]
        exact (hall.mono e4.g).append (.cons (.int z) .nil)
  · intro H' ⟨G', acc, ex, gD', hacc, _, hall⟩
    rw [hlen, List.take_length] at hall
    exact q _ _ _ (e2.trans (ex.show hD gD' hacc)) (.lst upd_same (hall.mono (Ex.new gD')))
theorem em_catL {P1 P2 : List PyData → Prop} (ha : EvM K B ta σ G (fun d => ∃ ds, d = .list ds ∧ P1 ds)) (hb : EvM K B tb σ G (fun d => ∃ es, d = .list es ∧ P2 es)) (hz : ∀ ds es, P1 ds → P2 es → ds.length + es.length ≤ 100000) : EvM K B (tOp (rAddU K) ta tb) σ G (fun d => ∃ ds es, d = .list (ds ++ es) ∧ P1 ds ∧ P2 es) := fun G1 H1 e1 s Q q =>
  ha G1 H1 e1 s _ fun x a G2 H2 e2 h2 ⟨ds, ea, p1⟩ => hb G2 H2 (e1.trans e2.g) e2.en _ fun y b G3 H3 e3 h3 ⟨es, eb, p2⟩ => by
    subst ea eb
    have t := evd_catL (evd_var (K := K) (G := G3) (σ := [some x, some y]) (i := 0) rfl (h2.mono e3.g)) (evd_var (i := 1) rfl h3) (hz _ _ p1 p2) G3 H3 (Ex.refl _) e3.en.sub Q fun v G4 H4 e4 h4 => q v _ G4 H4 ((e2.trans e3).trans (e4.mt e3.en)) h4 ⟨ds, es, rfl, p1, p2⟩
    obtain ⟨x', hx', y', hy', r⟩ := t
    cases hx'
    cases hy'
    exact r
theorem em_clears {t : List El} (h : EvMs K B tl σ G (fun ds => ∃ rs : List Ray, ds = [traind t, .list (rs.map rayd)] ∧ rs ≠ [] ∧ rs.length ≤ 10 ∧ ∀ y ∈ rs, RayB y)) (ht : Good t) : EvM K B (tCall (spClears K C) [] E tl) σ G (fun d => ∃ rs, d = .list ((told t rs).map told1)) := fun G1 H1 e1 s Q q =>
  h G1 H1 e1 s _ fun vs ds G2 H2 e2 h2 ⟨rs, ed, hn, hl, hr⟩ => by
    subst ed
    exact ⟨t, rs, G2, e2.en.sub, by rw [List.append_nil]; exact h2, ht, hl, hr, fun _ v G3 H3 e3 h3 => q v _ G3 H3 (e2.trans (e3.mt e2.en)) h3 ⟨rs, rfl⟩, fun z => absurd z hn⟩
end
theorem EvMs.imp' {K : PySem.W.Frag} {B : Bx} {G : Hp} {σ : L2.St} {tl : TA} {R R' : List PyData → Prop} (h : EvMs K B tl σ G R) (k : ∀ d, R d → R' d) : EvMs K B tl σ G R' := fun G1 H1 e1 s Q q => h G1 H1 e1 s Q fun v d G2 H2 e2 h2 r => q v d G2 H2 e2 h2 (k d r)
theorem rays_of : ∀ ds : List PyData, (∀ x ∈ ds, isRay x) → ∃ rs : List Ray, ds = rs.map rayd ∧ ∀ r ∈ rs, RayB r
  | [], _ => ⟨[], rfl, fun _ h => nomatch h⟩
  | d :: ds, h => by
    obtain ⟨e, rfl, he⟩ := h d List.mem_cons_self
    obtain ⟨t, rfl, ht⟩ := rays_of ds fun x hx => h x (List.mem_cons_of_mem _ hx)
    refine ⟨e :: t, rfl, fun y hy => ?_⟩
    rcases of_cons hy with rfl | hy
    · exact he
    · exact ht y hy
theorem ones_lay {α : Type} (xs : List α) : PyData.canLayAll0 (xs.map fun _ => PyData.int 1) = true := by
  induction xs with
  | nil => rfl
  | cons x xs ih => show (PyData.canLay0 (.int 1) && PyData.canLayAll0 (xs.map fun _ => PyData.int 1)) = true; rw [ih]; rfl
theorem ones_depth {α : Type} (xs : List α) : PyData.depthAll (xs.map fun _ => PyData.int 1) = 0 := by
  induction xs with
  | nil => rfl
  | cons x xs ih => show max (PyData.depth (.int 1)) (PyData.depthAll (xs.map fun _ => PyData.int 1)) = 0; rw [ih]; rfl
theorem ones_shaped {α : Type} (xs : List α) : SeqAt.shaped (.list (xs.map fun _ => PyData.int 1)) = true := by
  show (PyData.canLayAll0 (xs.map fun _ => PyData.int 1) && decide (PyData.depthAll (xs.map fun _ => PyData.int 1) + 1 ≤ 64)) = true
  rw [ones_lay, ones_depth]; rfl
theorem ones_eqv {α : Type} (xs : List α) : PyData.eqv (.list (xs.map fun _ => PyData.int 1)) (.list []) = xs.isEmpty := by
  cases xs <;> rfl
theorem sample_small {ps : List Pl} {b b' : Bds} (hp : ∀ x ∈ ps, PlBits 72 x) (hb : boundsOf (rowsOf (ps.map (lineOf false))) = some b) (hb' : boundsOf (rowsOf ((ps ++ [planeOf 1 0 (nearOf b), planeOf (-1) 0 (-nearOf b)]).map (lineOf true))) = some b') : RayB (nearOf b, nearOf b') := by
  have hn : B 222 222 (nearOf b) := bounds7 (rows7 fun l hl => by
    obtain ⟨x, hx, rfl⟩ := of_map hl
    have := hp x hx
    exact ⟨.int this.1, .int this.2.1, .int this.2.2⟩) hb
  obtain ⟨t1, t2⟩ := top_plane hn
  refine ⟨hn.mono (by decide) (by decide), (boundsB (rowsB fun l hl => ?_) hb').mono (by decide) (by decide)⟩
  obtain ⟨x, hx, rfl⟩ := of_map hl
  refine lineB ?_ true
  rcases of_append hx with hx | hx
  · exact (hp x hx).mono (by decide)
  · rcases of_cons hx with hx | hx
    · rw [hx]; exact t1
    · rw [of_one hx]; exact t2
theorem planes_small {t : List El} (ht : Good t) : ∀ x ∈ (edges t).map (planeE t), PlBits 72 x := fun x hx => by
  obtain ⟨e, he, rfl⟩ := of_map hx
  exact (planeE_size ht he).1
theorem planes_len {t : List El} (ht : Good t) : ((edges t).map (planeE t)).length ≤ 16 := by
  rw [List.length_map]
  exact Nat.le_trans (edgesFrom_len t 0) (by have := ht.1; omega)
def spLaw (K : PySem.W.Frag) : Sp := fun vs H Q _ => ∃ (a : Addr) (ns : List Int) (G : Hp), Ex G H ∧ vs = [.ref a] ∧ SqL K H a (ns.map V.int) ∧ ∀ H', Q (.bl true) H'
section
variable {w : World} {P : Program} {K : PySem.W.Frag} {mg : Str → Option Value} {base : Heap} {f : Addr} {fd : FuncData}
abbrev slaw : Stmt := top 66
theorem sclaw : FnScope ["_law_script", "_law_box_here", "_law_turn", "_law_train_here", "_law_rays", "_law_planes_here", "_law_ray_here", "_law_kept", "_law_told", "_law_blocked", "_law_k", "_law_one", "_law_row_here"] ["_law_script"] (defScope slaw) := ⟨rfl, rfl, rfl, by decide +kernel, rfl, by decide +kernel, by decide +kernel⟩
theorem lk_law__law_script : (defScope slaw).names.lookup ("_law_script" : Str) = some .local := by decide +kernel
theorem lk_law__law_box_here : (defScope slaw).names.lookup ("_law_box_here" : Str) = some .cell := by decide +kernel
theorem lk_law__law_turn : (defScope slaw).names.lookup ("_law_turn" : Str) = some .local := by decide +kernel
theorem lk_law__law_train_here : (defScope slaw).names.lookup ("_law_train_here" : Str) = some .cell := by decide +kernel
theorem lk_law__law_rays : (defScope slaw).names.lookup ("_law_rays" : Str) = some .local := by decide +kernel
theorem lk_law__law_planes_here : (defScope slaw).names.lookup ("_law_planes_here" : Str) = some .local := by decide +kernel
theorem lk_law__law_ray_here : (defScope slaw).names.lookup ("_law_ray_here" : Str) = some .local := by decide +kernel
theorem lk_law__law_kept : (defScope slaw).names.lookup ("_law_kept" : Str) = some .local := by decide +kernel
theorem lk_law__law_told : (defScope slaw).names.lookup ("_law_told" : Str) = some .local := by decide +kernel
theorem lk_law__law_blocked : (defScope slaw).names.lookup ("_law_blocked" : Str) = some .local := by decide +kernel
theorem gk_law__law_same : (defScope slaw).names.lookup ("_law_same" : Str) = some .globalImplicit := by decide +kernel
theorem gk_law_clearances : (defScope slaw).names.lookup ("clearances" : Str) = some .globalImplicit := by decide +kernel
theorem gk_law__law_ray : (defScope slaw).names.lookup ("_law_ray" : Str) = some .globalImplicit := by decide +kernel
theorem gk_law__law_refuses : (defScope slaw).names.lookup ("_law_refuses" : Str) = some .globalImplicit := by decide +kernel
theorem gk_law_range : (defScope slaw).names.lookup ("range" : Str) = some .globalImplicit := by decide +kernel
theorem gk_law_repr : (defScope slaw).names.lookup ("repr" : Str) = some .globalImplicit := by decide +kernel
theorem gk_law__law_due : (defScope slaw).names.lookup ("_law_due" : Str) = some .globalImplicit := by decide +kernel
theorem gk_law__law_empty : (defScope slaw).names.lookup ("_law_empty" : Str) = some .globalImplicit := by decide +kernel
theorem gk_law__law_draw : (defScope slaw).names.lookup ("_law_draw" : Str) = some .globalImplicit := by decide +kernel
theorem gk_law__law_sample : (defScope slaw).names.lookup ("_law_sample" : Str) = some .globalImplicit := by decide +kernel
theorem gk_law__law_planes : (defScope slaw).names.lookup ("_law_planes" : Str) = some .globalImplicit := by decide +kernel
theorem gk_law__law_train : (defScope slaw).names.lookup ("_law_train" : Str) = some .globalImplicit := by decide +kernel
theorem gk_law__law_box : (defScope slaw).names.lookup ("_law_box" : Str) = some .globalImplicit := by decide +kernel
theorem has_law (F : Fun K "law" "law" slaw f fd) (m : mg "law" = some (.ref f)) (zRange : mg "range" = none) (zRepr : mg "repr" = none) {cN : Addr}
    (h_law_box : Has P w K mg base "_law_box" 2 ["_law_script", "_law_first", "_law_last"] (spBox K)) (h_law_draw : Has P w K mg base "_law_draw" 1 ["_law_box_here", "_law_many"] (spB K Pd Rd)) (h_law_train : Has P w K mg base "_law_train" 5 ["_law_box_here", "_law_most"] (spB K P8 fun _ => isTrain)) (h_law_ray : Has P w K mg base "_law_ray" 3 ["_law_box_here"] (spB K Nil fun _ => isRay)) (h_law_planes : Has P w K mg base "_law_planes" 8 ["_law_train_here"] (spR K RPlanes)) (h_law_empty : Has P w K mg base "_law_empty" 6 ["_law_planes_here"] (spR K REmpty)) (h_law_sample : Has P w K mg base "_law_sample" 6 ["_law_planes_here"] (spR K RSample))
    (hclearances : HasX P w K mg base "clearances" 8 ["train", "rays"] (spClears K cN)) (h_law_due : Has P w K mg base "_law_due" 6 ["_law_train_here", "_law_rays"] (spR K RDue)) (h_law_same : HasG P w K mg base "_law_same" 1 ["_law_one", "_law_other"] (spR K RSame)) (h_law_exit : Has P w K mg base "_law_exit" 5 ["_law_train_here", "_law_ray_here"] (spR K RExit)) (h_law_refuses : Has P w K mg base "_law_refuses" 9 ["_law_train_here"] (spR K RRef)) :
    GOk P w K mg base CX0 10 f fd ["_law_script"] (spLaw K) := by
  refine gOk_of F sclaw (fun vs H Q E ⟨a, ns, G, _, e, _⟩ => by rw [e]; rfl) fun cd A outer s H E hg hr => ⟨_, (pss_cons (ps_set (i := 1) sclaw.nd rfl (Or.inr lk_law__law_box_here) (pe_c h_law_box (hr.mono (by decide)) gk_law__law_box (pa_cons (pv 0 rfl (Or.inl lk_law__law_script)) (pa_cons pe_int (pa_cons pe_int pa_nil))))) (pss_cons (ps_for PassesOwn.never rfl (pi_range1 gk_law_range zRange (pa_cons pe_int pa_nil)) (pg_name (i := 2) sclaw.nd rfl (Or.inl lk_law__law_turn)) (pss_cons (ps_set (i := 3) sclaw.nd rfl (Or.inr lk_law__law_train_here) (pe_c h_law_train (hr.mono (by decide)) gk_law__law_train (pa_cons (pv 1 rfl (Or.inr (Or.inl lk_law__law_box_here))) (pa_cons pe_int pa_nil)))) (pss_cons (ps_setLc (i := 4) (own := [("_law_k", 10)]) (g := (gName 10)) (tt := tYes) (by rfl) sclaw.nd rfl rfl (sw_true rfl rfl rfl (by decide +kernel)) (pi_range1 gk_law_range zRange (pa_cons (pe_op (op_addK (K := K) rfl) pe_int (pe_c h_law_draw (hr.mono (by decide)) gk_law__law_draw (pa_cons (pv 1 rfl (Or.inr (Or.inl lk_law__law_box_here))) (pa_cons pe_int pa_nil)))) pa_nil)) (blkOk_by (own := [("_law_k", 10)]) (N := ["_law_script", "_law_box_here", "_law_turn", "_law_train_here", "_law_rays", "_law_planes_here", "_law_ray_here", "_law_kept", "_law_told", "_law_blocked", "_law_k", "_law_one", "_law_row_here"]) (sc := defScope slaw) (by decide +kernel)) (fun _ _ _ _ _ => (pg_name (i := 10) sclaw.nd rfl (Or.inl rfl))) (fun _ _ _ _ _ => pts_nil) (fun _ _ _ _ _ => (pe_c h_law_ray (hr.mono (by decide)) (by rfl) (pa_cons (pv 1) pa_nil)))) (pss_cons (ps_set (i := 5) sclaw.nd rfl (Or.inl lk_law__law_planes_here) (pe_c h_law_planes (hr.mono (by decide)) gk_law__law_planes (pa_cons (pv 3 rfl (Or.inr (Or.inl lk_law__law_train_here))) pa_nil))) (pss_cut (ps_if (PW.pt (pw_and (pt_cmpR (op_eqK (K := K) rfl hr.units) (pe_c h_law_draw (hr.mono (by decide)) gk_law__law_draw (pa_cons (pv 1 rfl (Or.inr (Or.inl lk_law__law_box_here))) (pa_cons pe_int pa_nil))) pe_int (nomark _)) (pw_and1 (pt_not (pt_val (pe_c h_law_empty (hr.mono (by decide)) gk_law__law_empty (pa_cons (pv 5 rfl (Or.inl lk_law__law_planes_here)) pa_nil))))))) (pss_cons (ps_set (i := 6) sclaw.nd rfl (Or.inl lk_law__law_ray_here) (pe_c h_law_sample (hr.mono (by decide)) gk_law__law_sample (pa_cons (pv 5 rfl (Or.inl lk_law__law_planes_here)) pa_nil))) (pss_one (ps_set (i := 4) sclaw.nd rfl (Or.inl lk_law__law_rays) (pe_op (op_addK (K := K) rfl) (pe_lst (pa_cons (pv 6 rfl (Or.inl lk_law__law_ray_here)) pa_nil)) (pe_lc (own := [("_law_one", 11)]) (g := (gName 11)) (by rfl) sclaw.nd (pi_listK (K := K) rfl (pv 4 rfl (Or.inl lk_law__law_rays))) (blkOk_by (own := [("_law_one", 11)]) (N := ["_law_script", "_law_box_here", "_law_turn", "_law_train_here", "_law_rays", "_law_planes_here", "_law_ray_here", "_law_kept", "_law_told", "_law_blocked", "_law_k", "_law_one", "_law_row_here"]) (sc := defScope slaw) (by decide +kernel)) (fun _ _ _ _ _ => (pg_name (i := 11) sclaw.nd rfl (Or.inl rfl))) (fun _ _ _ _ _ => (pts_one (pt_cmpR (op_eqK (K := K) rfl hr.units) (pe_c h_law_draw (hr.mono (by decide)) (by rfl) (pa_cons (pv 1) (pa_cons pe_int pa_nil))) pe_int (nomark _)))) (fun _ _ _ _ _ => (pv 11))))))) pss_nil) (pss_cons (ps_set (i := 7) sclaw.nd rfl (Or.inl lk_law__law_kept) (pe_callB (call_repr (K := K) rfl hg hr.units) gk_law_repr zRepr (by decide +kernel) (pa_cons (pe_tup (pa_cons (pv 3 rfl (Or.inr (Or.inl lk_law__law_train_here))) (pa_cons (pv 4 rfl (Or.inl lk_law__law_rays)) pa_nil))) pa_nil))) (pss_cons (ps_set (i := 8) sclaw.nd rfl (Or.inl lk_law__law_told) (pe_cX hclearances (hr.mono (by decide)) gk_law_clearances (pa_cons (pv 3 rfl (Or.inr (Or.inl lk_law__law_train_here))) (pa_cons (pv 4 rfl (Or.inl lk_law__law_rays)) pa_nil)))) (pss_cons (ps_if (PW.pt (pw_or (pt_not (pt_val (pe_cG h_law_same hg (hr.mono (by decide)) gk_law__law_same (pa_cons (pv 8 rfl (Or.inl lk_law__law_told)) (pa_cons (pe_c h_law_due (hr.mono (by decide)) gk_law__law_due (pa_cons (pv 3 rfl (Or.inr (Or.inl lk_law__law_train_here))) (pa_cons (pv 4 rfl (Or.inl lk_law__law_rays)) pa_nil))) pa_nil))))) (pw_or1 (pt_cmpR (op_neK (K := K) rfl hr.units) (pe_callB (call_repr (K := K) rfl hg hr.units) gk_law_repr zRepr (by decide +kernel) (pa_cons (pe_tup (pa_cons (pv 3 rfl (Or.inr (Or.inl lk_law__law_train_here))) (pa_cons (pv 4 rfl (Or.inl lk_law__law_rays)) pa_nil))) pa_nil)) (pv 7 rfl (Or.inl lk_law__law_kept)) (nomark _))))) (pss_one (ps_ret pe_bl)) pss_nil) (pss_cons (ps_setLc (i := 9) (own := [("_law_ray_here", 6)]) (g := (gName 6)) (by rfl) sclaw.nd rfl rfl (sw_true rfl rfl rfl (by decide +kernel)) (pi_listK (K := K) rfl (pv 4 rfl (Or.inl lk_law__law_rays))) (blkOk_by (own := [("_law_ray_here", 6)]) (N := ["_law_script", "_law_box_here", "_law_turn", "_law_train_here", "_law_rays", "_law_planes_here", "_law_ray_here", "_law_kept", "_law_told", "_law_blocked", "_law_k", "_law_one", "_law_row_here"]) (sc := defScope slaw) (by decide +kernel)) (fun _ _ _ _ _ => (pg_name (i := 6) sclaw.nd rfl (Or.inl rfl))) (fun _ _ _ _ _ => (pts_one (pt_cmpR op_isNo (pe_c h_law_exit (hr.mono (by decide)) (by rfl) (pa_cons (pv 3) (pa_cons (pv 6) pa_nil))) pe_non (nomark _)))) (fun _ _ _ _ _ => pe_int)) (pss_cons (ps_if (pt_cmpR (op_neK (K := K) rfl hr.units) (pe_cmpR (op_eqK (K := K) rfl hr.units) (pv 9 rfl (Or.inl lk_law__law_blocked)) (pe_lst pa_nil) (nomark _)) (pe_cmpR (op_eqK (K := K) rfl hr.units) (pe_lc (own := [("_law_row_here", 12)]) (g := (gName 12)) (by rfl) sclaw.nd (pi_listK (K := K) rfl (pv 8 rfl (Or.inl lk_law__law_told))) (blkOk_by (own := [("_law_row_here", 12)]) (N := ["_law_script", "_law_box_here", "_law_turn", "_law_train_here", "_law_rays", "_law_planes_here", "_law_ray_here", "_law_kept", "_law_told", "_law_blocked", "_law_k", "_law_one", "_law_row_here"]) (sc := defScope slaw) (by decide +kernel)) (fun _ _ _ _ _ => (pg_name (i := 12) sclaw.nd rfl (Or.inl rfl))) (fun _ _ _ _ _ => (pts_one (pt_cmpR op_ltI (pe_ix (ix_seqK (K := K) rfl) (pe_ix (ix_seqK (K := K) rfl) (pv 12) pe_int (fun _ _ => rfl)) pe_int (fun _ _ => rfl)) pe_int (nomark _)))) (fun _ _ _ _ _ => pe_int)) (pe_lst pa_nil) (nomark _)) (nomark _)) (pss_one (ps_ret pe_bl)) pss_nil) (pss_one (ps_if (pt_not (pt_val (pe_c h_law_refuses (hr.mono (by decide)) gk_law__law_refuses (pa_cons (pv 3 rfl (Or.inr (Or.inl lk_law__law_train_here))) pa_nil)))) (pss_one (ps_ret pe_bl)) pss_nil)))))))))))) (pss_one (ps_ret (pe_and (pe_c h_law_refuses (hr.mono (by decide)) gk_law__law_refuses (pa_cons (pe_lst pa_nil) pa_nil)) (pe_one (pe_cG h_law_same hg (hr.mono (by decide)) gk_law__law_same (pa_cons (pe_cX hclearances (hr.mono (by decide)) gk_law_clearances (pa_cons (pe_lst pa_nil) (pa_cons (pe_lst (pa_cons (pe_c h_law_ray (hr.mono (by decide)) gk_law__law_ray (pa_cons (pv 1 rfl (Or.inr (Or.inl lk_law__law_box_here))) pa_nil)) pa_nil)) pa_nil))) (pa_cons (pe_lst pa_nil) pa_nil))))))))), ?_⟩
  rintro vs Q ⟨sa, ns, G, sG, rfl, hS, q⟩
  refine ⟨.ref sa, rfl, sa, ns, G, sG, rfl, hS, fun B G1 H1 e1 b1 => ?_⟩
  change tSeq _ _ _ [some (.ref sa), some (.ref B.b), none, none, none, none, none, none, none, none, none, none, none] H1
  refine q_forR (K := K) (n := 2) evd_int (by decide) b1.sub fun G2 H2 e2 => ⟨fun i σ' G' H' => Bs B G' H' ∧ ∃ u2 u3 u4 u5 u6 u7 u8 u9 u10 u11 u12, σ' = [some (.ref sa), some (.ref B.b), u2, u3, u4, u5, u6, u7, u8, u9, u10, u11, u12],
    ⟨(e2.mt b1).en, none, none, none, none, none, none, none, none, none, none, none, rfl⟩, ?_, ?_⟩
  · rintro i σ' G3 H3 hi ⟨b3, u2, u3, u4, u5, u6, u7, u8, u9, u10, u11, u12, rfl⟩
    change tSeq _ _ _ [some (.ref sa), some (.ref B.b), some (.int (i : Int)), u3, u4, u5, u6, u7, u8, u9, u10, u11, u12] H3
    refine mqa (K := K) (B := B) (em_draw (P := P8) (R := fun _ => isTrain) rfl (es_cons evd_int es_nil) rfl) b3 fun vt d4 G4 H4 e4 h4 ⟨t, et, ht⟩ => ?_
    subst et
    change tSeq _ _ _ [some (.ref sa), some (.ref B.b), some (.int (i : Int)), some vt, u4, u5, u6, u7, u8, u9, u10, u11, u12] H4
    refine mqa (K := K) (B := B) (em_lcR (R := isRay) (Pn := fun n => 1 ≤ n ∧ n ≤ 3) ((em_ii (f := fun i j => .int (i + j)) (fun i j => .int (i + j)) (em_int (j := 1)) (em_d (m := 3) rfl (by decide)) (fun _ _ _ => .int _) fun i j H Q _ _ q => .inl ⟨i, j, rfl, rfl, q⟩).imp ?_) (fun n h => Nat.le_trans h.2 (by decide)) (fun _ => rfl) fun v G9 s9 => em_b rfl) e4.en fun vr d5 G5 H5 e5 h5 ⟨ds, ed, hdl, hds⟩ => ?_
    · rintro d ⟨i, j, rfl, rfl, h0, h1⟩
      obtain ⟨n, rfl⟩ := of_nat h0
      exact ⟨1 + n, by rw [Int.natCast_add]; rfl, by omega, by omega⟩
    subst ed
    obtain ⟨rs, rfl, hrs⟩ := rays_of ds hds
    rw [List.length_map] at hdl
    change tSeq _ _ _ [some (.ref sa), some (.ref B.b), some (.int (i : Int)), some vt, some vr, u5, u6, u7, u8, u9, u10, u11, u12] H5
    have g5 := h4.mono e5.g
    refine qa (K := K) (evd_call (es_cons (evd_var rfl g5) es_nil) (R := RPlanes) ⟨t, rfl, ht, rfl⟩) e5.en.sub fun vp G6 H6 e6 h6 => ?_
    have b6 := (e6.mt e5.en).en
    have t6 := g5.mono e6.g
    have r6 := h5.mono e6.g
    change tCut _ _ _ [some (.ref sa), some (.ref B.b), some (.int (i : Int)), some vt, some vr, some vp, u6, u7, u8, u9, u10, u11, u12] H6
    refine ⟨fun σ' H' => ∃ (G' : Hp) (vr' : V) (rs' : List Ray) (u6' u11' : Option V), Bs B G' H' ∧ Is K G' vt (traind t) ∧ Is K G' vr' (.list (rs'.map rayd)) ∧ rs' ≠ [] ∧ rs'.length ≤ 10 ∧ (∀ y ∈ rs', RayB y) ∧ σ' = [some (.ref sa), some (.ref B.b), some (.int (i : Int)), some vt, some vr', some vp, u6', u7, u8, u9, u10, u11', u12], ?_, ?_⟩
    · have keep : ∀ G' H', Mt B G6 H6 G' H' → ∃ (G9 : Hp) (vr' : V) (rs' : List Ray) (u6' u11' : Option V), Bs B G9 H' ∧ Is K G9 vt (traind t) ∧ Is K G9 vr' (.list (rs'.map rayd)) ∧ rs' ≠ [] ∧ rs'.length ≤ 10 ∧ (∀ y ∈ rs', RayB y) ∧ [some (.ref sa), some (.ref B.b), some (.int (i : Int)), some vt, some vr, some vp, u6, u7, u8, u9, u10, u11, u12] = [some (.ref sa), some (.ref B.b), some (.int (i : Int)), some vt, some vr', some vp, u6', u7, u8, u9, u10, u11', u12] :=
        fun G' H' e => ⟨G', vr, rs, u6, u11, e.en, t6.mono e.g, r6.mono e.g, (by rintro rfl; exact absurd hdl.1 (by decide)), by omega, hrs, rfl⟩
      refine (emb_ii (K := K) (B := B) (f := fun i j => decide (i = j)) (em_d (m := 2) rfl (by decide)) (em_int (j := 0)) (fun i j H Q q => .inl ⟨rfl, by rw [decI]; exact q⟩)) G6 H6 (Ex.refl _) b6 _ fun b G7 H7 e7 => ?_
      cases b with
      | false => exact iteF (iteF (keep _ _ e7))
      | true =>
        refine iteT (eb_not (eb_val (evd_call (es_cons (evd_var (K := K) rfl (h6.mono e7.g)) es_nil) (R := REmpty) (E := E0) ⟨_, rfl, Nat.le_trans (planes_len ht) (by decide), fun x hx => (planes_small ht x hx).mono (by decide), rfl⟩)) G7 H7 (Ex.refl _) e7.en.sub _ fun G8 H8 e8 => ?_)
        have e78 := e7.trans (e8.mt e7.en)
        cases hbd : boundsOf (rowsOf (((edges t).map (planeE t)).map (lineOf false))) with
        | none => exact ite_no rfl (keep _ _ e78)
        | some bd =>
          refine ite_yes rfl ?_
          obtain ⟨bd', hbd'⟩ := sample_ok hbd
          refine qa (K := K) (evd_call (es_cons (evd_var rfl (h6.mono e78.g)) es_nil) (R := RSample) ⟨_, bd, bd', rfl, planes_len ht, planes_small ht, hbd, hbd', rfl⟩) e78.en.sub fun vs G9 H9 e9 h9 => ?_
          change tAsg _ _ _ [some (.ref sa), some (.ref B.b), some (.int (i : Int)), some vt, some vr, some vp, some vs, u7, u8, u9, u10, u11, u12] H9
          have e79 := e78.trans (e9.mt e78.en)
          refine msa (K := K) (B := B) (em_catL (P1 := fun ds => ds = [rayd (nearOf bd, nearOf bd')]) (P2 := fun es => ∃ ys : List Ray, es = ys.map rayd ∧ ys.length ≤ rs.length ∧ ∀ y ∈ ys, y ∈ rs) ((evd_lst (es_cons (evd_var rfl h9) es_nil)).m.imp fun d e => ⟨_, e, rfl⟩)
            ((em_lcF (xs := rs) rayd (evd_var rfl (r6.mono e79.g)) (by omega) (fun _ => rfl) (fun _ => rfl) fun v G10 s10 => emb_ii (f := fun i j => decide (i = j)) (em_d (m := 3) rfl (by decide)) (em_int (j := 0)) (fun i j H Q q => .inl ⟨rfl, by rw [decI]; exact q⟩)).imp fun d ⟨ys, e, l, m⟩ => ⟨_, e, ys, rfl, l, m⟩) ?_) e79.en fun v10 d10 G10 H10 e10 h10 ⟨ds, es, ed, e1', ys, e2', hl, hm⟩ => ?_
          · rintro ds es rfl ⟨ys, rfl, hl, _⟩
            rw [List.length_map, List.length_singleton]; omega
          · subst ed e1' e2'
            have e6a := e79.trans e10
            refine ⟨G10, v10, (nearOf bd, nearOf bd') :: ys, _, _, e10.en, t6.mono e6a.g, h10, (fun h => nomatch h), by rw [List.length_cons]; omega, fun y hy => ?_, rfl⟩
            rcases of_cons hy with rfl | hy
            · exact sample_small (planes_small ht) hbd hbd'
            · exact hrs y (hm y hy)
    · rintro σ' H7 ⟨G7, vr7, rs7, u6, u11, b7, t7, r7, hne, hl, hry, rfl⟩
      have shp := sh_pair ((sh_train ht).mono (by decide) (by decide)) ((sh_rays hry hl).mono (by decide) (by decide))
      have isr : ∀ G v, Is K G v (.tuple [traind t, .list (rs7.map rayd)]) → ∃ b, v = .ref b := fun G v h => by obtain ⟨b, _, e, _⟩ := h.tupIn; exact ⟨b, e⟩
      refine qa (K := K) (evd_repr (evd_tup (es_cons (evd_var rfl t7) (es_cons (evd_var rfl r7) es_nil))) isr shp) b7.sub fun v8 G8 H8 e8 h8 => ?_
      change tSeq _ _ _ [some (.ref sa), some (.ref B.b), some (.int (i : Int)), some vt, some vr7, some vp, u6, some v8, u8, u9, u10, u11, u12] H8
      refine qa (K := K) (ev_clears (evd_var rfl (t7.mono e8.g)) (evd_var rfl (r7.mono e8.g)) ht hl hry hne) e8.sub fun v9 G9 H9 e9 h9 => ?_
      change tSeq _ _ _ [some (.ref sa), some (.ref B.b), some (.int (i : Int)), some vt, some vr7, some vp, u6, some v8, some v9, u9, u10, u11, u12] H9
      have e79 := e8.trans e9
      have t9 := t7.mono e79.g
      have r9 := r7.mono e79.g
      refine qi (eb_or (eb_not (eb_val (K := K) (evd_call (es_cons (evd_var rfl h9) (es_cons (evd_call (es_cons (evd_var rfl t9) (es_cons (evd_var rfl r9) es_nil)) (R := RDue) ⟨t, rs7, rfl, ht, hne, hl, hry, rfl⟩) es_nil)) (R := RSame) ⟨_, rfl, sh_told ht hry, rfl⟩)))
        fun _ => eb_val (K := K) (evd_neS (evd_repr (evd_tup (es_cons (evd_var rfl t9) (es_cons (evd_var rfl r9) es_nil))) isr shp) (evd_var rfl (h8.mono e9.g)))) e9.sub fun G10 H10 e10 => ?_
      refine ite_no (by rw [decide_eq_true rfl]; rfl) ?_
      dsimp only [tNext]
      have e710 := e79.trans e10
      have t10 := t7.mono e710.g
      have r10 := r7.mono e710.g
      refine qa (K := K) (evd_lcFm (xs := rs7) rayd (fun r => (exitR t r).isNone) 1 (evd_var rfl r10) (by omega) (fun _ => rfl) fun r v G11 s11 hr11 hv => (eb_val (evd_isN (evd_call (es_cons (evd_var rfl (t10.mono s11)) (es_cons (evd_var rfl hv) es_nil)) (R := RExit) ⟨t, r, rfl, ht, hry r hr11, rfl⟩))).to (by cases exitR t r <;> rfl)) e10.sub fun v11 G11 H11 e11 h11 => ?_
      have u6' : Option V := none
      change tSeq _ _ _ [some (.ref sa), some (.ref B.b), some (.int (i : Int)), some vt, some vr7, some vp, u6, some v8, some v9, some v11, u10, u11, u12] H11
      refine qi (eb_val (K := K) (evd_neB (evd_eqD (evd_var rfl h11) (evd_lst es_nil) (ones_shaped _) rfl)
        (evd_eqD (evd_lcFm (xs := told t rs7) told1 isNeg 1 (evd_var rfl (h9.mono (e10.trans e11).g)) ?_ (fun _ => rfl) fun x v G12 s12 hx hv => ?_) (evd_lst es_nil) (ones_shaped _) rfl))) e11.sub fun G12 H12 e12 => ?_
      · unfold told
        rw [List.length_map]
        exact Nat.le_trans (edgesFrom_len t 0) (by have := ht.1; omega)
      · obtain ⟨e, he, rfl⟩ := of_map hx
        cases ho : leastR (rs7.map (clr t e)) with
        | none => rw [least_nil, List.map_eq_nil_iff] at ho; exact absurd ho hne
        | some y =>
          rw [ho] at hv
          exact (eb_val (evd_lt (ev_num (evd_ixT (ds := [ekey e, fr y]) (evd_var rfl hv) evd_int rfl)) evd_int)).to (by unfold isNeg; rfl)
      refine ite_no ?_ ?_
      · rw [ones_eqv, ones_eqv]
        have := blocked_iff (t := t) (rs := rs7)
        cases h1 : (rs7.filter fun r => (exitR t r).isNone) with
        | nil => rw [this.mp h1]; rfl
        | cons a l =>
          cases h2 : (told t rs7).filter isNeg with
          | nil => rw [this.mpr h2] at h1; cases h1
          | cons a' l' => rfl
      dsimp only [tNext]
      refine si (eb_not (eb_val (K := K) (evd_call (es_cons (evd_var rfl (t10.mono (e11.trans e12).g)) es_nil) (R := RRef) ⟨t, rfl, ht, rfl⟩))) e12.sub fun G13 H13 e13 => ite_no rfl ?_
      exact ⟨G13, (((((((e79.trans e10).trans e11).trans e12).trans e13).mt b7)).en), _, _, _, _, _, _, _, _, _, _, _, rfl⟩
  · rintro σ' G3 H3 ⟨b3, u2, u3, u4, u5, u6, u7, u8, u9, u10, u11, u12, rfl⟩
    have good0 : Good [] := ⟨Nat.zero_le _, fun e he => nomatch he⟩
    refine (evd_call (es_cons (evd_lst es_nil) es_nil) (R := RRef) (E := E0) ⟨[], rfl, good0, rfl⟩) G3 H3 (Ex.refl _) b3.sub _ fun v4 G4 H4 e4 h4 => ?_
    obtain rfl := h4.blIn
    refine ⟨true, rfl, iteT ?_⟩
    refine (em_call (K := K) (B := B) (RR := RSame) (R := fun d => d = .bool true) (ems_cons (em_clears (t := []) (C := cN) (ems_cons (evd_lst es_nil).m (ems_cons (em_lst (ems_cons (em_b (R := isRay) rfl) ems_nil) ?_) ems_nil) |>.imp' ?_) good0) (ems_cons (evd_lst es_nil).m ems_nil)) ?_) G4 H4 (Ex.refl _) (e4.mt b3).en _ fun v5 d5 G5 H5 e5 h5 r5 => ?_
    · rintro ds ⟨_, _, rfl, _, rfl⟩; simp
    · rintro ds ⟨_, _, rfl, rfl, _, _, rfl, ⟨_, rfl, _, _, rfl, ⟨r, rfl, hr⟩, rfl⟩, rfl⟩
      exact ⟨[r], rfl, (fun h => nomatch h), by simp, fun y hy => by rw [of_one hy]; exact hr⟩
    · rintro ds ⟨_, _, rfl, ⟨rs, rfl⟩, _, _, rfl, rfl, rfl⟩
      exact ⟨_, ⟨[], rfl, (⟨rfl, rfl, rfl, by decide, by decide⟩ : Sh 8000 9 (.list [])), rfl⟩, rfl⟩
    · subst r5
      obtain rfl := h5.blIn
      exact q H5
end
end Rt
namespace Rt
open PySem PySem.Spec PyProof.Rows L2 Evl
/-- the law's row from the promise of its def -/
theorem walkG {l : PySem.W.OpenLaw} {n k : Nat} {q : Program} {loose : List Str} {XP : (Str → Option Value) → Heap → Prop} {YP : World → Heap → Prop} {d : DefRec} {K : Params → PySem.W.Frag}
    (many : l.most = some n) (few : n ≤ sizeLine) (plain : d.params.defaults = []) (room : Room k callerA) (there : ∀ (w : World) (h : Heap), YP w h → (K w.params).In h)
    (main : ∀ (w : World) (mg : Str → Option Value) (fa : Addr) (h : Heap), (K w.params).In h → h.Ns mainGlobals mg → mg d.name = some (.ref fa) →
      ∃ fd : FuncData, (∀ (s : Shared) (u : Value), BindsTo s fd ⟨[u], []⟩ [("_law_script", u)]) ∧ ∀ base : Heap, (K w.params).In base → base.Ns mainGlobals mg → GOk l.prog w (K w.params) mg base CX0 k fa fd ["_law_script"] (spLaw (K w.params))) :
    PySem.W.WalkO q loose XP YP l.row.toRowW d [] (fun g us => PySem.call g us) := by
  refine Att.attach_call many plain fun w s₀ s₁ mg mb fa o pm cd doc a vs ns ground Y _ _ _ named script numbers short gens => ?_
  have inK := there w _ Y
  obtain ⟨fd, bind, good⟩ := main w mg fa _ inK ground.T.g named
  have vals := vals_ints numbers
  have len : vs.length ≤ sizeLine := by rw [numbers.length]; exact Nat.le_trans short few
  -- the script alone is followed, and only where it is no object of the text
  obtain ⟨T, only, seq, ok⟩ : ∃ T : Hp, (∀ b u, T b = some u → b = a ∧ (K w.params).lookup a = none ∧ u = .frz { cls := .type "list", data := .seq vs.toArray } (.lst (ns.map V.int))) ∧ SqL (K w.params) T a (ns.map V.int) ∧ HOk l.prog w T s₁.heap := by
    cases known : (K w.params).lookup a with
    | some u =>
      have same := inK a u known
      rw [script] at same
      cases same
      refine ⟨fun _ => none, fun b u h => (nomatch h), .inr ⟨_, vs.toArray, _, known, rfl, rfl, rfl, ?_, by simpa using vals⟩, fun b u h => (nomatch h)⟩
      rw [List.size_toArray]; exact len
    | none =>
      refine ⟨fun b => if b = a then some (.frz { cls := .type "list", data := .seq vs.toArray } (.lst (ns.map V.int))) else none, fun b u h => ?_, .inl (.inr ⟨{ cls := .type "list", data := .seq vs.toArray }, if_pos rfl⟩), fun b u h => ?_⟩
      · by_cases hb : b = a
        · exact ⟨hb, rfl, (Option.some.inj (show some _ = some u from (if_pos hb).symm.trans h)).symm⟩
        · exact nomatch (if_neg hb).symm.trans h
      · by_cases hb : b = a
        · obtain rfl := Option.some.inj (show some _ = some u from (if_pos hb).symm.trans h)
          subst hb
          exact ⟨script, by rw [List.length_map]; exact Nat.le_trans short few, vs, _, vals, script⟩
        · exact nomatch (if_neg hb).symm.trans h
  have else_ : ∀ {b : Addr}, (b = a → (K w.params).lookup a ≠ none) → T b = none := fun {b} h => by
    cases e : T b with
    | none => rfl
    | some u =>
      obtain ⟨h1, h2, _⟩ := only b u e
      exact absurd h2 (h h1)
  have kin : (K w.params).In (hidT s₁.heap T) := fun b u e => hidT_get (inK b u e) (else_ fun hb => by subst hb; rw [e]; exact fun z => (nomatch z))
  have spaces : ∀ {b : Addr} {m : Str → Option Value}, s₁.heap.Ns b m → (hidT s₁.heap T).Ns b m := fun {b m} ⟨u, es, ep, e, dict, rest⟩ => by
    refine ⟨u, es, ep, hidT_get e ?_, dict, rest⟩
    cases t : T b with
    | none => rfl
    | some z =>
      obtain ⟨h1, _, _⟩ := only b z t
      subst h1
      rw [script] at e
      cases e
      exact nomatch (show Data.seq vs.toArray _ = Data.dict es ep from dict)
  have world : Mod (K w.params) mg (hidT s₁.heap T) := ⟨kin, spaces ground.T.g, ⟨mb, spaces ground.T.b, ground.T.builtins⟩, let ⟨mc, h1, h2⟩ := ground.T.nolimit; ⟨mc, spaces h1, h2⟩⟩
  have here : Env0 l.prog w (K w.params) mg (hidT s₁.heap T) callerA [] s₁ T := ⟨rfl, world, fun b u e => of_hidT e, Nat.le_of_eq (hidT_size _ _), trivial, fun b hb => absurd hb List.not_mem_nil, ok, .of_eq gens⟩
  refine codeAny_mono ((good _ kin world.glob).go callerA [] s₁ T [.ref a] [.ref a] (fun v _ => v = .bl true) E0 rfl room here (bind s₁ (.ref a)) (.cons rfl .nil) ⟨a, ns, fun _ => none, fun b u h => (nomatch h), rfl, seq, fun _ => rfl⟩) fun r s' told => ?_
  match r, told with
  | .error e, told => exact told.elim
  | .ok .next, told => exact told.elim
  | .ok .brk, told => exact told.elim
  | .ok .cont, told => exact told.elim
  | .ok (.ret u), ⟨v, T', os, bare, un, ok', rel, yes⟩ =>
    obtain rfl : v = .bl true := yes
    obtain rfl : u = Value.bool true := rel
    refine ⟨rfl, OldK.of_keep fun b u e => ?_, os, bare⟩
    cases t : T b with
    | none => exact un.keep b u e t (List.not_mem_nil) (List.not_mem_nil)
    | some z =>
      obtain ⟨_, _, rfl⟩ := only b z t
      have kept := un.frzs b _ _ t
      obtain ⟨h1, _⟩ := ok b _ t
      obtain ⟨h2, _⟩ := ok' b _ kept
      rw [e] at h1
      cases h1
      exact h2
end Rt
namespace Rt
open PySem PySem.Spec PyProof.Rows L2 Evl
theorem mg_is {K : PySem.W.Frag} {h : Heap} {mg : Str → Option Value} {x : Str} {v : Value} (X : K.In h) (G : h.Ns mainGlobals mg) (a : PySem.W.nsIn K mainGlobals x = some (some v)) : mg x = some v := PySem.W.mg_of X G a
theorem mg_none {K : PySem.W.Frag} {h : Heap} {mg : Str → Option Value} {x : Str} (X : K.In h) (G : h.Ns mainGlobals mg) (a : PySem.W.nsIn K mainGlobals x = some none) : mg x = none := PySem.W.mg_none_of X G a
theorem const_is {K : PySem.W.Frag} {a : Addr} {o : Obj} {vs : List V} {ds : List PyData} (l : K.lookup a = some o) (t : o.cls = .type "tuple") (v : ∃ its n, o.data = .seq its n ∧ its.size ≤ sizeLine ∧ Vals vs its.toList) (h : ∀ G, IsAll K G vs ds) : ∀ G, Is K G (.ref a) (.tuple ds) := fun G => by
  obtain ⟨its, n, d, s, q⟩ := v
  exact .tup (.inr ⟨o, its, n, l, t, d, s, q⟩) (h G)
set_option maxHeartbeats 0 in
theorem all_mk {P : Program} {w : World} {K : PySem.W.Frag} {h : Heap} {mg : Str → Option Value} {fa : Addr} (X : K.In h) (G : h.Ns mainGlobals mg) (hfa : mg "law" = some (.ref fa))
    {fcommon_divisor : Addr} {occommon_divisor kVcommon_divisor dccommon_divisor pmcommon_divisor cdcommon_divisor ctcommon_divisor : Value} {odcommon_divisor ancommon_divisor : Option Addr} {slcommon_divisor : Array (Option Value)}
    (acommon_divisor : PySem.W.nsIn K mainGlobals "common_divisor" = some (some (.ref fcommon_divisor)))
    (lcommon_divisor : K.lookup fcommon_divisor = some ⟨occommon_divisor, odcommon_divisor, .func (PySem.W.fnOf "common_divisor" "common_divisor" (defArgs scommon_divisor) (defBody scommon_divisor) (defScope scommon_divisor) .none kVcommon_divisor dccommon_divisor pmcommon_divisor ancommon_divisor cdcommon_divisor ctcommon_divisor), slcommon_divisor⟩)
    (ccommon_divisor : PySem.W.codeIn K cdcommon_divisor "common_divisor" = true) (kcommon_divisor : PySem.W.keepIn K (.ref fcommon_divisor) = true)
    {ffraction : Addr} {ocfraction kVfraction dcfraction pmfraction cdfraction ctfraction : Value} {odfraction anfraction : Option Addr} {slfraction : Array (Option Value)}
    {aT : Addr} {oT : Obj} {d1 : Value} {n1 : Nat}
    (afraction : PySem.W.nsIn K mainGlobals "fraction" = some (some (.ref ffraction)))
    (lfraction : K.lookup ffraction = some ⟨ocfraction, odfraction, .func (PySem.W.fnOf "fraction" "fraction" (defArgs sfraction) (defBody sfraction) (defScope sfraction) (.ref aT) kVfraction dcfraction pmfraction anfraction cdfraction ctfraction), slfraction⟩)
    (lT : K.lookup aT = some oT) (hT : oT.data = .seq #[d1] n1)
    (cfraction : PySem.W.codeIn K cdfraction "fraction" = true) (kfraction : PySem.W.keepIn K (.ref ffraction) = true)
    {fadd : Addr} {ocadd kVadd dcadd pmadd cdadd ctadd : Value} {odadd anadd : Option Addr} {sladd : Array (Option Value)}
    (aadd : PySem.W.nsIn K mainGlobals "add" = some (some (.ref fadd)))
    (ladd : K.lookup fadd = some ⟨ocadd, odadd, .func (PySem.W.fnOf "add" "add" (defArgs sadd) (defBody sadd) (defScope sadd) .none kVadd dcadd pmadd anadd cdadd ctadd), sladd⟩)
    (cadd : PySem.W.codeIn K cdadd "add" = true) (kadd : PySem.W.keepIn K (.ref fadd) = true)
    {fnegative : Addr} {ocnegative kVnegative dcnegative pmnegative cdnegative ctnegative : Value} {odnegative annegative : Option Addr} {slnegative : Array (Option Value)}
    (anegative : PySem.W.nsIn K mainGlobals "negative" = some (some (.ref fnegative)))
    (lnegative : K.lookup fnegative = some ⟨ocnegative, odnegative, .func (PySem.W.fnOf "negative" "negative" (defArgs snegative) (defBody snegative) (defScope snegative) .none kVnegative dcnegative pmnegative annegative cdnegative ctnegative), slnegative⟩)
    (cnegative : PySem.W.codeIn K cdnegative "negative" = true) (knegative : PySem.W.keepIn K (.ref fnegative) = true)
    {fsubtract : Addr} {ocsubtract kVsubtract dcsubtract pmsubtract cdsubtract ctsubtract : Value} {odsubtract ansubtract : Option Addr} {slsubtract : Array (Option Value)}
    (asubtract : PySem.W.nsIn K mainGlobals "subtract" = some (some (.ref fsubtract)))
    (lsubtract : K.lookup fsubtract = some ⟨ocsubtract, odsubtract, .func (PySem.W.fnOf "subtract" "subtract" (defArgs ssubtract) (defBody ssubtract) (defScope ssubtract) .none kVsubtract dcsubtract pmsubtract ansubtract cdsubtract ctsubtract), slsubtract⟩)
    (csubtract : PySem.W.codeIn K cdsubtract "subtract" = true) (ksubtract : PySem.W.keepIn K (.ref fsubtract) = true)
    {fmultiply : Addr} {ocmultiply kVmultiply dcmultiply pmmultiply cdmultiply ctmultiply : Value} {odmultiply anmultiply : Option Addr} {slmultiply : Array (Option Value)}
    (amultiply : PySem.W.nsIn K mainGlobals "multiply" = some (some (.ref fmultiply)))
    (lmultiply : K.lookup fmultiply = some ⟨ocmultiply, odmultiply, .func (PySem.W.fnOf "multiply" "multiply" (defArgs smultiply) (defBody smultiply) (defScope smultiply) .none kVmultiply dcmultiply pmmultiply anmultiply cdmultiply ctmultiply), slmultiply⟩)
    (cmultiply : PySem.W.codeIn K cdmultiply "multiply" = true) (kmultiply : PySem.W.keepIn K (.ref fmultiply) = true)
    {fdivide : Addr} {ocdivide kVdivide dcdivide pmdivide cddivide ctdivide : Value} {oddivide andivide : Option Addr} {sldivide : Array (Option Value)}
    (adivide : PySem.W.nsIn K mainGlobals "divide" = some (some (.ref fdivide)))
    (ldivide : K.lookup fdivide = some ⟨ocdivide, oddivide, .func (PySem.W.fnOf "divide" "divide" (defArgs sdivide) (defBody sdivide) (defScope sdivide) .none kVdivide dcdivide pmdivide andivide cddivide ctdivide), sldivide⟩)
    (cdivide : PySem.W.codeIn K cddivide "divide" = true) (kdivide : PySem.W.keepIn K (.ref fdivide) = true)
    {fsign : Addr} {ocsign kVsign dcsign pmsign cdsign ctsign : Value} {odsign ansign : Option Addr} {slsign : Array (Option Value)}
    (asign : PySem.W.nsIn K mainGlobals "sign" = some (some (.ref fsign)))
    (lsign : K.lookup fsign = some ⟨ocsign, odsign, .func (PySem.W.fnOf "sign" "sign" (defArgs ssign) (defBody ssign) (defScope ssign) .none kVsign dcsign pmsign ansign cdsign ctsign), slsign⟩)
    (csign : PySem.W.codeIn K cdsign "sign" = true) (ksign : PySem.W.keepIn K (.ref fsign) = true)
    {fcompare : Addr} {occompare kVcompare dccompare pmcompare cdcompare ctcompare : Value} {odcompare ancompare : Option Addr} {slcompare : Array (Option Value)}
    (acompare : PySem.W.nsIn K mainGlobals "compare" = some (some (.ref fcompare)))
    (lcompare : K.lookup fcompare = some ⟨occompare, odcompare, .func (PySem.W.fnOf "compare" "compare" (defArgs scompare) (defBody scompare) (defScope scompare) .none kVcompare dccompare pmcompare ancompare cdcompare ctcompare), slcompare⟩)
    (ccompare : PySem.W.codeIn K cdcompare "compare" = true) (kcompare : PySem.W.keepIn K (.ref fcompare) = true)
    {fis_less : Addr} {ocis_less kVis_less dcis_less pmis_less cdis_less ctis_less : Value} {odis_less anis_less : Option Addr} {slis_less : Array (Option Value)}
    (ais_less : PySem.W.nsIn K mainGlobals "is_less" = some (some (.ref fis_less)))
    (lis_less : K.lookup fis_less = some ⟨ocis_less, odis_less, .func (PySem.W.fnOf "is_less" "is_less" (defArgs sis_less) (defBody sis_less) (defScope sis_less) .none kVis_less dcis_less pmis_less anis_less cdis_less ctis_less), slis_less⟩)
    (cis_less : PySem.W.codeIn K cdis_less "is_less" = true) (kis_less : PySem.W.keepIn K (.ref fis_less) = true)
    {fleast_of : Addr} {ocleast_of kVleast_of dcleast_of pmleast_of cdleast_of ctleast_of : Value} {odleast_of anleast_of : Option Addr} {slleast_of : Array (Option Value)}
    (aleast_of : PySem.W.nsIn K mainGlobals "least_of" = some (some (.ref fleast_of)))
    (lleast_of : K.lookup fleast_of = some ⟨ocleast_of, odleast_of, .func (PySem.W.fnOf "least_of" "least_of" (defArgs sleast_of) (defBody sleast_of) (defScope sleast_of) .none kVleast_of dcleast_of pmleast_of anleast_of cdleast_of ctleast_of), slleast_of⟩)
    (cleast_of : PySem.W.codeIn K cdleast_of "least_of" = true) (kleast_of : PySem.W.keepIn K (.ref fleast_of) = true)
    {felement_map : Addr} {ocelement_map kVelement_map dcelement_map pmelement_map cdelement_map ctelement_map : Value} {odelement_map anelement_map : Option Addr} {slelement_map : Array (Option Value)}
    (aelement_map : PySem.W.nsIn K mainGlobals "element_map" = some (some (.ref felement_map)))
    (lelement_map : K.lookup felement_map = some ⟨ocelement_map, odelement_map, .func (PySem.W.fnOf "element_map" "element_map" (defArgs selement_map) (defBody selement_map) (defScope selement_map) .none kVelement_map dcelement_map pmelement_map anelement_map cdelement_map ctelement_map), slelement_map⟩)
    (celement_map : PySem.W.codeIn K cdelement_map "element_map" = true) (kelement_map : PySem.W.keepIn K (.ref felement_map) = true)
    {fweighted : Addr} {ocweighted kVweighted dcweighted pmweighted cdweighted ctweighted : Value} {odweighted anweighted : Option Addr} {slweighted : Array (Option Value)}
    (aweighted : PySem.W.nsIn K mainGlobals "weighted" = some (some (.ref fweighted)))
    (lweighted : K.lookup fweighted = some ⟨ocweighted, odweighted, .func (PySem.W.fnOf "weighted" "weighted" (defArgs sweighted) (defBody sweighted) (defScope sweighted) .none kVweighted dcweighted pmweighted anweighted cdweighted ctweighted), slweighted⟩)
    (cweighted : PySem.W.codeIn K cdweighted "weighted" = true) (kweighted : PySem.W.keepIn K (.ref fweighted) = true)
    {fapply_map : Addr} {ocapply_map kVapply_map dcapply_map pmapply_map cdapply_map ctapply_map : Value} {odapply_map anapply_map : Option Addr} {slapply_map : Array (Option Value)}
    (aapply_map : PySem.W.nsIn K mainGlobals "apply_map" = some (some (.ref fapply_map)))
    (lapply_map : K.lookup fapply_map = some ⟨ocapply_map, odapply_map, .func (PySem.W.fnOf "apply_map" "apply_map" (defArgs sapply_map) (defBody sapply_map) (defScope sapply_map) .none kVapply_map dcapply_map pmapply_map anapply_map cdapply_map ctapply_map), slapply_map⟩)
    (capply_map : PySem.W.codeIn K cdapply_map "apply_map" = true) (kapply_map : PySem.W.keepIn K (.ref fapply_map) = true)
    {fcompose_maps : Addr} {occompose_maps kVcompose_maps dccompose_maps pmcompose_maps cdcompose_maps ctcompose_maps : Value} {odcompose_maps ancompose_maps : Option Addr} {slcompose_maps : Array (Option Value)}
    (acompose_maps : PySem.W.nsIn K mainGlobals "compose_maps" = some (some (.ref fcompose_maps)))
    (lcompose_maps : K.lookup fcompose_maps = some ⟨occompose_maps, odcompose_maps, .func (PySem.W.fnOf "compose_maps" "compose_maps" (defArgs scompose_maps) (defBody scompose_maps) (defScope scompose_maps) .none kVcompose_maps dccompose_maps pmcompose_maps ancompose_maps cdcompose_maps ctcompose_maps), slcompose_maps⟩)
    (ccompose_maps : PySem.W.codeIn K cdcompose_maps "compose_maps" = true) (kcompose_maps : PySem.W.keepIn K (.ref fcompose_maps) = true)
    {fray_transfer : Addr} {ocray_transfer kVray_transfer dcray_transfer pmray_transfer cdray_transfer ctray_transfer : Value} {odray_transfer anray_transfer : Option Addr} {slray_transfer : Array (Option Value)}
    (aray_transfer : PySem.W.nsIn K mainGlobals "ray_transfer" = some (some (.ref fray_transfer)))
    (lray_transfer : K.lookup fray_transfer = some ⟨ocray_transfer, odray_transfer, .func (PySem.W.fnOf "ray_transfer" "ray_transfer" (defArgs sray_transfer) (defBody sray_transfer) (defScope sray_transfer) .none kVray_transfer dcray_transfer pmray_transfer anray_transfer cdray_transfer ctray_transfer), slray_transfer⟩)
    (cray_transfer : PySem.W.codeIn K cdray_transfer "ray_transfer" = true) (kray_transfer : PySem.W.keepIn K (.ref fray_transfer) = true)
    {fedges_of : Addr} {ocedges_of kVedges_of dcedges_of pmedges_of cdedges_of ctedges_of : Value} {odedges_of anedges_of : Option Addr} {sledges_of : Array (Option Value)}
    (aedges_of : PySem.W.nsIn K mainGlobals "edges_of" = some (some (.ref fedges_of)))
    (ledges_of : K.lookup fedges_of = some ⟨ocedges_of, odedges_of, .func (PySem.W.fnOf "edges_of" "edges_of" (defArgs sedges_of) (defBody sedges_of) (defScope sedges_of) .none kVedges_of dcedges_of pmedges_of anedges_of cdedges_of ctedges_of), sledges_of⟩)
    (cedges_of : PySem.W.codeIn K cdedges_of "edges_of" = true) (kedges_of : PySem.W.keepIn K (.ref fedges_of) = true)
    {fclearance : Addr} {occlearance kVclearance dcclearance pmclearance cdclearance ctclearance : Value} {odclearance anclearance : Option Addr} {slclearance : Array (Option Value)}
    (aclearance : PySem.W.nsIn K mainGlobals "clearance" = some (some (.ref fclearance)))
    (lclearance : K.lookup fclearance = some ⟨occlearance, odclearance, .func (PySem.W.fnOf "clearance" "clearance" (defArgs sclearance) (defBody sclearance) (defScope sclearance) .none kVclearance dcclearance pmclearance anclearance cdclearance ctclearance), slclearance⟩)
    (cclearance : PySem.W.codeIn K cdclearance "clearance" = true) (kclearance : PySem.W.keepIn K (.ref fclearance) = true)
    {fclearances : Addr} {occlearances kVclearances dcclearances pmclearances cdclearances ctclearances : Value} {odclearances anclearances : Option Addr} {slclearances : Array (Option Value)}
    (aclearances : PySem.W.nsIn K mainGlobals "clearances" = some (some (.ref fclearances)))
    (lclearances : K.lookup fclearances = some ⟨occlearances, odclearances, .func (PySem.W.fnOf "clearances" "clearances" (defArgs sclearances) (defBody sclearances) (defScope sclearances) .none kVclearances dcclearances pmclearances anclearances cdclearances ctclearances), slclearances⟩)
    (cclearances : PySem.W.codeIn K cdclearances "clearances" = true) (kclearances : PySem.W.keepIn K (.ref fclearances) = true)
    {f_law_cell : Addr} {oc_law_cell kV_law_cell dc_law_cell pm_law_cell cd_law_cell ct_law_cell : Value} {od_law_cell an_law_cell : Option Addr} {sl_law_cell : Array (Option Value)}
    (a_law_cell : PySem.W.nsIn K mainGlobals "_law_cell" = some (some (.ref f_law_cell)))
    (l_law_cell : K.lookup f_law_cell = some ⟨oc_law_cell, od_law_cell, .func (PySem.W.fnOf "_law_cell" "_law_cell" (defArgs s_law_cell) (defBody s_law_cell) (defScope s_law_cell) .none kV_law_cell dc_law_cell pm_law_cell an_law_cell cd_law_cell ct_law_cell), sl_law_cell⟩)
    (c_law_cell : PySem.W.codeIn K cd_law_cell "_law_cell" = true) (k_law_cell : PySem.W.keepIn K (.ref f_law_cell) = true)
    {f_law_row : Addr} {oc_law_row kV_law_row dc_law_row pm_law_row cd_law_row ct_law_row : Value} {od_law_row an_law_row : Option Addr} {sl_law_row : Array (Option Value)}
    (a_law_row : PySem.W.nsIn K mainGlobals "_law_row" = some (some (.ref f_law_row)))
    (l_law_row : K.lookup f_law_row = some ⟨oc_law_row, od_law_row, .func (PySem.W.fnOf "_law_row" "_law_row" (defArgs s_law_row) (defBody s_law_row) (defScope s_law_row) .none kV_law_row dc_law_row pm_law_row an_law_row cd_law_row ct_law_row), sl_law_row⟩)
    (c_law_row : PySem.W.codeIn K cd_law_row "_law_row" = true) (k_law_row : PySem.W.keepIn K (.ref f_law_row) = true)
    {f_law_box : Addr} {oc_law_box kV_law_box dc_law_box pm_law_box cd_law_box ct_law_box : Value} {od_law_box an_law_box : Option Addr} {sl_law_box : Array (Option Value)}
    (a_law_box : PySem.W.nsIn K mainGlobals "_law_box" = some (some (.ref f_law_box)))
    (l_law_box : K.lookup f_law_box = some ⟨oc_law_box, od_law_box, .func (PySem.W.fnOf "_law_box" "_law_box" (defArgs s_law_box) (defBody s_law_box) (defScope s_law_box) .none kV_law_box dc_law_box pm_law_box an_law_box cd_law_box ct_law_box), sl_law_box⟩)
    (c_law_box : PySem.W.codeIn K cd_law_box "_law_box" = true) (k_law_box : PySem.W.keepIn K (.ref f_law_box) = true)
    {f_law_draw : Addr} {oc_law_draw kV_law_draw dc_law_draw pm_law_draw cd_law_draw ct_law_draw : Value} {od_law_draw an_law_draw : Option Addr} {sl_law_draw : Array (Option Value)}
    (a_law_draw : PySem.W.nsIn K mainGlobals "_law_draw" = some (some (.ref f_law_draw)))
    (l_law_draw : K.lookup f_law_draw = some ⟨oc_law_draw, od_law_draw, .func (PySem.W.fnOf "_law_draw" "_law_draw" (defArgs s_law_draw) (defBody s_law_draw) (defScope s_law_draw) .none kV_law_draw dc_law_draw pm_law_draw an_law_draw cd_law_draw ct_law_draw), sl_law_draw⟩)
    (c_law_draw : PySem.W.codeIn K cd_law_draw "_law_draw" = true) (k_law_draw : PySem.W.keepIn K (.ref f_law_draw) = true)
    {f_law_same : Addr} {oc_law_same kV_law_same dc_law_same pm_law_same cd_law_same ct_law_same : Value} {od_law_same an_law_same : Option Addr} {sl_law_same : Array (Option Value)}
    (a_law_same : PySem.W.nsIn K mainGlobals "_law_same" = some (some (.ref f_law_same)))
    (l_law_same : K.lookup f_law_same = some ⟨oc_law_same, od_law_same, .func (PySem.W.fnOf "_law_same" "_law_same" (defArgs s_law_same) (defBody s_law_same) (defScope s_law_same) .none kV_law_same dc_law_same pm_law_same an_law_same cd_law_same ct_law_same), sl_law_same⟩)
    (c_law_same : PySem.W.codeIn K cd_law_same "_law_same" = true) (k_law_same : PySem.W.keepIn K (.ref f_law_same) = true)
    {f_law_frac : Addr} {oc_law_frac kV_law_frac dc_law_frac pm_law_frac cd_law_frac ct_law_frac : Value} {od_law_frac an_law_frac : Option Addr} {sl_law_frac : Array (Option Value)}
    (a_law_frac : PySem.W.nsIn K mainGlobals "_law_frac" = some (some (.ref f_law_frac)))
    (l_law_frac : K.lookup f_law_frac = some ⟨oc_law_frac, od_law_frac, .func (PySem.W.fnOf "_law_frac" "_law_frac" (defArgs s_law_frac) (defBody s_law_frac) (defScope s_law_frac) .none kV_law_frac dc_law_frac pm_law_frac an_law_frac cd_law_frac ct_law_frac), sl_law_frac⟩)
    (c_law_frac : PySem.W.codeIn K cd_law_frac "_law_frac" = true) (k_law_frac : PySem.W.keepIn K (.ref f_law_frac) = true)
    {f_law_add : Addr} {oc_law_add kV_law_add dc_law_add pm_law_add cd_law_add ct_law_add : Value} {od_law_add an_law_add : Option Addr} {sl_law_add : Array (Option Value)}
    (a_law_add : PySem.W.nsIn K mainGlobals "_law_add" = some (some (.ref f_law_add)))
    (l_law_add : K.lookup f_law_add = some ⟨oc_law_add, od_law_add, .func (PySem.W.fnOf "_law_add" "_law_add" (defArgs s_law_add) (defBody s_law_add) (defScope s_law_add) .none kV_law_add dc_law_add pm_law_add an_law_add cd_law_add ct_law_add), sl_law_add⟩)
    (c_law_add : PySem.W.codeIn K cd_law_add "_law_add" = true) (k_law_add : PySem.W.keepIn K (.ref f_law_add) = true)
    {f_law_neg : Addr} {oc_law_neg kV_law_neg dc_law_neg pm_law_neg cd_law_neg ct_law_neg : Value} {od_law_neg an_law_neg : Option Addr} {sl_law_neg : Array (Option Value)}
    (a_law_neg : PySem.W.nsIn K mainGlobals "_law_neg" = some (some (.ref f_law_neg)))
    (l_law_neg : K.lookup f_law_neg = some ⟨oc_law_neg, od_law_neg, .func (PySem.W.fnOf "_law_neg" "_law_neg" (defArgs s_law_neg) (defBody s_law_neg) (defScope s_law_neg) .none kV_law_neg dc_law_neg pm_law_neg an_law_neg cd_law_neg ct_law_neg), sl_law_neg⟩)
    (c_law_neg : PySem.W.codeIn K cd_law_neg "_law_neg" = true) (k_law_neg : PySem.W.keepIn K (.ref f_law_neg) = true)
    {f_law_sub : Addr} {oc_law_sub kV_law_sub dc_law_sub pm_law_sub cd_law_sub ct_law_sub : Value} {od_law_sub an_law_sub : Option Addr} {sl_law_sub : Array (Option Value)}
    (a_law_sub : PySem.W.nsIn K mainGlobals "_law_sub" = some (some (.ref f_law_sub)))
    (l_law_sub : K.lookup f_law_sub = some ⟨oc_law_sub, od_law_sub, .func (PySem.W.fnOf "_law_sub" "_law_sub" (defArgs s_law_sub) (defBody s_law_sub) (defScope s_law_sub) .none kV_law_sub dc_law_sub pm_law_sub an_law_sub cd_law_sub ct_law_sub), sl_law_sub⟩)
    (c_law_sub : PySem.W.codeIn K cd_law_sub "_law_sub" = true) (k_law_sub : PySem.W.keepIn K (.ref f_law_sub) = true)
    {f_law_mul : Addr} {oc_law_mul kV_law_mul dc_law_mul pm_law_mul cd_law_mul ct_law_mul : Value} {od_law_mul an_law_mul : Option Addr} {sl_law_mul : Array (Option Value)}
    (a_law_mul : PySem.W.nsIn K mainGlobals "_law_mul" = some (some (.ref f_law_mul)))
    (l_law_mul : K.lookup f_law_mul = some ⟨oc_law_mul, od_law_mul, .func (PySem.W.fnOf "_law_mul" "_law_mul" (defArgs s_law_mul) (defBody s_law_mul) (defScope s_law_mul) .none kV_law_mul dc_law_mul pm_law_mul an_law_mul cd_law_mul ct_law_mul), sl_law_mul⟩)
    (c_law_mul : PySem.W.codeIn K cd_law_mul "_law_mul" = true) (k_law_mul : PySem.W.keepIn K (.ref f_law_mul) = true)
    {f_law_div : Addr} {oc_law_div kV_law_div dc_law_div pm_law_div cd_law_div ct_law_div : Value} {od_law_div an_law_div : Option Addr} {sl_law_div : Array (Option Value)}
    (a_law_div : PySem.W.nsIn K mainGlobals "_law_div" = some (some (.ref f_law_div)))
    (l_law_div : K.lookup f_law_div = some ⟨oc_law_div, od_law_div, .func (PySem.W.fnOf "_law_div" "_law_div" (defArgs s_law_div) (defBody s_law_div) (defScope s_law_div) .none kV_law_div dc_law_div pm_law_div an_law_div cd_law_div ct_law_div), sl_law_div⟩)
    (c_law_div : PySem.W.codeIn K cd_law_div "_law_div" = true) (k_law_div : PySem.W.keepIn K (.ref f_law_div) = true)
    {f_law_less : Addr} {oc_law_less kV_law_less dc_law_less pm_law_less cd_law_less ct_law_less : Value} {od_law_less an_law_less : Option Addr} {sl_law_less : Array (Option Value)}
    (a_law_less : PySem.W.nsIn K mainGlobals "_law_less" = some (some (.ref f_law_less)))
    (l_law_less : K.lookup f_law_less = some ⟨oc_law_less, od_law_less, .func (PySem.W.fnOf "_law_less" "_law_less" (defArgs s_law_less) (defBody s_law_less) (defScope s_law_less) .none kV_law_less dc_law_less pm_law_less an_law_less cd_law_less ct_law_less), sl_law_less⟩)
    (c_law_less : PySem.W.codeIn K cd_law_less "_law_less" = true) (k_law_less : PySem.W.keepIn K (.ref f_law_less) = true)
    {f_law_least : Addr} {oc_law_least kV_law_least dc_law_least pm_law_least cd_law_least ct_law_least : Value} {od_law_least an_law_least : Option Addr} {sl_law_least : Array (Option Value)}
    (a_law_least : PySem.W.nsIn K mainGlobals "_law_least" = some (some (.ref f_law_least)))
    (l_law_least : K.lookup f_law_least = some ⟨oc_law_least, od_law_least, .func (PySem.W.fnOf "_law_least" "_law_least" (defArgs s_law_least) (defBody s_law_least) (defScope s_law_least) .none kV_law_least dc_law_least pm_law_least an_law_least cd_law_least ct_law_least), sl_law_least⟩)
    (c_law_least : PySem.W.codeIn K cd_law_least "_law_least" = true) (k_law_least : PySem.W.keepIn K (.ref f_law_least) = true)
    {f_law_greatest : Addr} {oc_law_greatest kV_law_greatest dc_law_greatest pm_law_greatest cd_law_greatest ct_law_greatest : Value} {od_law_greatest an_law_greatest : Option Addr} {sl_law_greatest : Array (Option Value)}
    (a_law_greatest : PySem.W.nsIn K mainGlobals "_law_greatest" = some (some (.ref f_law_greatest)))
    (l_law_greatest : K.lookup f_law_greatest = some ⟨oc_law_greatest, od_law_greatest, .func (PySem.W.fnOf "_law_greatest" "_law_greatest" (defArgs s_law_greatest) (defBody s_law_greatest) (defScope s_law_greatest) .none kV_law_greatest dc_law_greatest pm_law_greatest an_law_greatest cd_law_greatest ct_law_greatest), sl_law_greatest⟩)
    (c_law_greatest : PySem.W.codeIn K cd_law_greatest "_law_greatest" = true) (k_law_greatest : PySem.W.keepIn K (.ref f_law_greatest) = true)
    {f_law_fraction : Addr} {oc_law_fraction kV_law_fraction dc_law_fraction pm_law_fraction cd_law_fraction ct_law_fraction : Value} {od_law_fraction an_law_fraction : Option Addr} {sl_law_fraction : Array (Option Value)}
    (a_law_fraction : PySem.W.nsIn K mainGlobals "_law_fraction" = some (some (.ref f_law_fraction)))
    (l_law_fraction : K.lookup f_law_fraction = some ⟨oc_law_fraction, od_law_fraction, .func (PySem.W.fnOf "_law_fraction" "_law_fraction" (defArgs s_law_fraction) (defBody s_law_fraction) (defScope s_law_fraction) .none kV_law_fraction dc_law_fraction pm_law_fraction an_law_fraction cd_law_fraction ct_law_fraction), sl_law_fraction⟩)
    (c_law_fraction : PySem.W.codeIn K cd_law_fraction "_law_fraction" = true) (k_law_fraction : PySem.W.keepIn K (.ref f_law_fraction) = true)
    {f_law_nonzero : Addr} {oc_law_nonzero kV_law_nonzero dc_law_nonzero pm_law_nonzero cd_law_nonzero ct_law_nonzero : Value} {od_law_nonzero an_law_nonzero : Option Addr} {sl_law_nonzero : Array (Option Value)}
    (a_law_nonzero : PySem.W.nsIn K mainGlobals "_law_nonzero" = some (some (.ref f_law_nonzero)))
    (l_law_nonzero : K.lookup f_law_nonzero = some ⟨oc_law_nonzero, od_law_nonzero, .func (PySem.W.fnOf "_law_nonzero" "_law_nonzero" (defArgs s_law_nonzero) (defBody s_law_nonzero) (defScope s_law_nonzero) .none kV_law_nonzero dc_law_nonzero pm_law_nonzero an_law_nonzero cd_law_nonzero ct_law_nonzero), sl_law_nonzero⟩)
    (c_law_nonzero : PySem.W.codeIn K cd_law_nonzero "_law_nonzero" = true) (k_law_nonzero : PySem.W.keepIn K (.ref f_law_nonzero) = true)
    {f_law_stop : Addr} {oc_law_stop kV_law_stop dc_law_stop pm_law_stop cd_law_stop ct_law_stop : Value} {od_law_stop an_law_stop : Option Addr} {sl_law_stop : Array (Option Value)}
    (a_law_stop : PySem.W.nsIn K mainGlobals "_law_stop" = some (some (.ref f_law_stop)))
    (l_law_stop : K.lookup f_law_stop = some ⟨oc_law_stop, od_law_stop, .func (PySem.W.fnOf "_law_stop" "_law_stop" (defArgs s_law_stop) (defBody s_law_stop) (defScope s_law_stop) .none kV_law_stop dc_law_stop pm_law_stop an_law_stop cd_law_stop ct_law_stop), sl_law_stop⟩)
    (c_law_stop : PySem.W.codeIn K cd_law_stop "_law_stop" = true) (k_law_stop : PySem.W.keepIn K (.ref f_law_stop) = true)
    {f_law_element : Addr} {oc_law_element kV_law_element dc_law_element pm_law_element cd_law_element ct_law_element : Value} {od_law_element an_law_element : Option Addr} {sl_law_element : Array (Option Value)}
    (a_law_element : PySem.W.nsIn K mainGlobals "_law_element" = some (some (.ref f_law_element)))
    (l_law_element : K.lookup f_law_element = some ⟨oc_law_element, od_law_element, .func (PySem.W.fnOf "_law_element" "_law_element" (defArgs s_law_element) (defBody s_law_element) (defScope s_law_element) .none kV_law_element dc_law_element pm_law_element an_law_element cd_law_element ct_law_element), sl_law_element⟩)
    (c_law_element : PySem.W.codeIn K cd_law_element "_law_element" = true) (k_law_element : PySem.W.keepIn K (.ref f_law_element) = true)
    {f_law_train : Addr} {oc_law_train kV_law_train dc_law_train pm_law_train cd_law_train ct_law_train : Value} {od_law_train an_law_train : Option Addr} {sl_law_train : Array (Option Value)}
    (a_law_train : PySem.W.nsIn K mainGlobals "_law_train" = some (some (.ref f_law_train)))
    (l_law_train : K.lookup f_law_train = some ⟨oc_law_train, od_law_train, .func (PySem.W.fnOf "_law_train" "_law_train" (defArgs s_law_train) (defBody s_law_train) (defScope s_law_train) .none kV_law_train dc_law_train pm_law_train an_law_train cd_law_train ct_law_train), sl_law_train⟩)
    (c_law_train : PySem.W.codeIn K cd_law_train "_law_train" = true) (k_law_train : PySem.W.keepIn K (.ref f_law_train) = true)
    {f_law_ray : Addr} {oc_law_ray kV_law_ray dc_law_ray pm_law_ray cd_law_ray ct_law_ray : Value} {od_law_ray an_law_ray : Option Addr} {sl_law_ray : Array (Option Value)}
    (a_law_ray : PySem.W.nsIn K mainGlobals "_law_ray" = some (some (.ref f_law_ray)))
    (l_law_ray : K.lookup f_law_ray = some ⟨oc_law_ray, od_law_ray, .func (PySem.W.fnOf "_law_ray" "_law_ray" (defArgs s_law_ray) (defBody s_law_ray) (defScope s_law_ray) .none kV_law_ray dc_law_ray pm_law_ray an_law_ray cd_law_ray ct_law_ray), sl_law_ray⟩)
    (c_law_ray : PySem.W.codeIn K cd_law_ray "_law_ray" = true) (k_law_ray : PySem.W.keepIn K (.ref f_law_ray) = true)
    {f_law_go : Addr} {oc_law_go kV_law_go dc_law_go pm_law_go cd_law_go ct_law_go : Value} {od_law_go an_law_go : Option Addr} {sl_law_go : Array (Option Value)}
    (a_law_go : PySem.W.nsIn K mainGlobals "_law_go" = some (some (.ref f_law_go)))
    (l_law_go : K.lookup f_law_go = some ⟨oc_law_go, od_law_go, .func (PySem.W.fnOf "_law_go" "_law_go" (defArgs s_law_go) (defBody s_law_go) (defScope s_law_go) .none kV_law_go dc_law_go pm_law_go an_law_go cd_law_go ct_law_go), sl_law_go⟩)
    (c_law_go : PySem.W.codeIn K cd_law_go "_law_go" = true) (k_law_go : PySem.W.keepIn K (.ref f_law_go) = true)
    {f_law_blocks : Addr} {oc_law_blocks kV_law_blocks dc_law_blocks pm_law_blocks cd_law_blocks ct_law_blocks : Value} {od_law_blocks an_law_blocks : Option Addr} {sl_law_blocks : Array (Option Value)}
    (a_law_blocks : PySem.W.nsIn K mainGlobals "_law_blocks" = some (some (.ref f_law_blocks)))
    (l_law_blocks : K.lookup f_law_blocks = some ⟨oc_law_blocks, od_law_blocks, .func (PySem.W.fnOf "_law_blocks" "_law_blocks" (defArgs s_law_blocks) (defBody s_law_blocks) (defScope s_law_blocks) .none kV_law_blocks dc_law_blocks pm_law_blocks an_law_blocks cd_law_blocks ct_law_blocks), sl_law_blocks⟩)
    (c_law_blocks : PySem.W.codeIn K cd_law_blocks "_law_blocks" = true) (k_law_blocks : PySem.W.keepIn K (.ref f_law_blocks) = true)
    {f_law_out : Addr} {oc_law_out kV_law_out dc_law_out pm_law_out cd_law_out ct_law_out : Value} {od_law_out an_law_out : Option Addr} {sl_law_out : Array (Option Value)}
    (a_law_out : PySem.W.nsIn K mainGlobals "_law_out" = some (some (.ref f_law_out)))
    (l_law_out : K.lookup f_law_out = some ⟨oc_law_out, od_law_out, .func (PySem.W.fnOf "_law_out" "_law_out" (defArgs s_law_out) (defBody s_law_out) (defScope s_law_out) .none kV_law_out dc_law_out pm_law_out an_law_out cd_law_out ct_law_out), sl_law_out⟩)
    (c_law_out : PySem.W.codeIn K cd_law_out "_law_out" = true) (k_law_out : PySem.W.keepIn K (.ref f_law_out) = true)
    {f_law_exit : Addr} {oc_law_exit kV_law_exit dc_law_exit pm_law_exit cd_law_exit ct_law_exit : Value} {od_law_exit an_law_exit : Option Addr} {sl_law_exit : Array (Option Value)}
    (a_law_exit : PySem.W.nsIn K mainGlobals "_law_exit" = some (some (.ref f_law_exit)))
    (l_law_exit : K.lookup f_law_exit = some ⟨oc_law_exit, od_law_exit, .func (PySem.W.fnOf "_law_exit" "_law_exit" (defArgs s_law_exit) (defBody s_law_exit) (defScope s_law_exit) .none kV_law_exit dc_law_exit pm_law_exit an_law_exit cd_law_exit ct_law_exit), sl_law_exit⟩)
    (c_law_exit : PySem.W.codeIn K cd_law_exit "_law_exit" = true) (k_law_exit : PySem.W.keepIn K (.ref f_law_exit) = true)
    {f_law_map : Addr} {oc_law_map kV_law_map dc_law_map pm_law_map cd_law_map ct_law_map : Value} {od_law_map an_law_map : Option Addr} {sl_law_map : Array (Option Value)}
    (a_law_map : PySem.W.nsIn K mainGlobals "_law_map" = some (some (.ref f_law_map)))
    (l_law_map : K.lookup f_law_map = some ⟨oc_law_map, od_law_map, .func (PySem.W.fnOf "_law_map" "_law_map" (defArgs s_law_map) (defBody s_law_map) (defScope s_law_map) .none kV_law_map dc_law_map pm_law_map an_law_map cd_law_map ct_law_map), sl_law_map⟩)
    (c_law_map : PySem.W.codeIn K cd_law_map "_law_map" = true) (k_law_map : PySem.W.keepIn K (.ref f_law_map) = true)
    {f_law_plane : Addr} {oc_law_plane kV_law_plane dc_law_plane pm_law_plane cd_law_plane ct_law_plane : Value} {od_law_plane an_law_plane : Option Addr} {sl_law_plane : Array (Option Value)}
    (a_law_plane : PySem.W.nsIn K mainGlobals "_law_plane" = some (some (.ref f_law_plane)))
    (l_law_plane : K.lookup f_law_plane = some ⟨oc_law_plane, od_law_plane, .func (PySem.W.fnOf "_law_plane" "_law_plane" (defArgs s_law_plane) (defBody s_law_plane) (defScope s_law_plane) .none kV_law_plane dc_law_plane pm_law_plane an_law_plane cd_law_plane ct_law_plane), sl_law_plane⟩)
    (c_law_plane : PySem.W.codeIn K cd_law_plane "_law_plane" = true) (k_law_plane : PySem.W.keepIn K (.ref f_law_plane) = true)
    {f_law_edges : Addr} {oc_law_edges kV_law_edges dc_law_edges pm_law_edges cd_law_edges ct_law_edges : Value} {od_law_edges an_law_edges : Option Addr} {sl_law_edges : Array (Option Value)}
    (a_law_edges : PySem.W.nsIn K mainGlobals "_law_edges" = some (some (.ref f_law_edges)))
    (l_law_edges : K.lookup f_law_edges = some ⟨oc_law_edges, od_law_edges, .func (PySem.W.fnOf "_law_edges" "_law_edges" (defArgs s_law_edges) (defBody s_law_edges) (defScope s_law_edges) .none kV_law_edges dc_law_edges pm_law_edges an_law_edges cd_law_edges ct_law_edges), sl_law_edges⟩)
    (c_law_edges : PySem.W.codeIn K cd_law_edges "_law_edges" = true) (k_law_edges : PySem.W.keepIn K (.ref f_law_edges) = true)
    {f_law_planes : Addr} {oc_law_planes kV_law_planes dc_law_planes pm_law_planes cd_law_planes ct_law_planes : Value} {od_law_planes an_law_planes : Option Addr} {sl_law_planes : Array (Option Value)}
    (a_law_planes : PySem.W.nsIn K mainGlobals "_law_planes" = some (some (.ref f_law_planes)))
    (l_law_planes : K.lookup f_law_planes = some ⟨oc_law_planes, od_law_planes, .func (PySem.W.fnOf "_law_planes" "_law_planes" (defArgs s_law_planes) (defBody s_law_planes) (defScope s_law_planes) .none kV_law_planes dc_law_planes pm_law_planes an_law_planes cd_law_planes ct_law_planes), sl_law_planes⟩)
    (c_law_planes : PySem.W.codeIn K cd_law_planes "_law_planes" = true) (k_law_planes : PySem.W.keepIn K (.ref f_law_planes) = true)
    {f_law_line : Addr} {oc_law_line kV_law_line dc_law_line pm_law_line cd_law_line ct_law_line : Value} {od_law_line an_law_line : Option Addr} {sl_law_line : Array (Option Value)}
    (a_law_line : PySem.W.nsIn K mainGlobals "_law_line" = some (some (.ref f_law_line)))
    (l_law_line : K.lookup f_law_line = some ⟨oc_law_line, od_law_line, .func (PySem.W.fnOf "_law_line" "_law_line" (defArgs s_law_line) (defBody s_law_line) (defScope s_law_line) .none kV_law_line dc_law_line pm_law_line an_law_line cd_law_line ct_law_line), sl_law_line⟩)
    (c_law_line : PySem.W.codeIn K cd_law_line "_law_line" = true) (k_law_line : PySem.W.keepIn K (.ref f_law_line) = true)
    {f_law_bounds : Addr} {oc_law_bounds kV_law_bounds dc_law_bounds pm_law_bounds cd_law_bounds ct_law_bounds : Value} {od_law_bounds an_law_bounds : Option Addr} {sl_law_bounds : Array (Option Value)}
    (a_law_bounds : PySem.W.nsIn K mainGlobals "_law_bounds" = some (some (.ref f_law_bounds)))
    (l_law_bounds : K.lookup f_law_bounds = some ⟨oc_law_bounds, od_law_bounds, .func (PySem.W.fnOf "_law_bounds" "_law_bounds" (defArgs s_law_bounds) (defBody s_law_bounds) (defScope s_law_bounds) .none kV_law_bounds dc_law_bounds pm_law_bounds an_law_bounds cd_law_bounds ct_law_bounds), sl_law_bounds⟩)
    (c_law_bounds : PySem.W.codeIn K cd_law_bounds "_law_bounds" = true) (k_law_bounds : PySem.W.keepIn K (.ref f_law_bounds) = true)
    {f_law_empty : Addr} {oc_law_empty kV_law_empty dc_law_empty pm_law_empty cd_law_empty ct_law_empty : Value} {od_law_empty an_law_empty : Option Addr} {sl_law_empty : Array (Option Value)}
    (a_law_empty : PySem.W.nsIn K mainGlobals "_law_empty" = some (some (.ref f_law_empty)))
    (l_law_empty : K.lookup f_law_empty = some ⟨oc_law_empty, od_law_empty, .func (PySem.W.fnOf "_law_empty" "_law_empty" (defArgs s_law_empty) (defBody s_law_empty) (defScope s_law_empty) .none kV_law_empty dc_law_empty pm_law_empty an_law_empty cd_law_empty ct_law_empty), sl_law_empty⟩)
    (c_law_empty : PySem.W.codeIn K cd_law_empty "_law_empty" = true) (k_law_empty : PySem.W.keepIn K (.ref f_law_empty) = true)
    {f_law_near : Addr} {oc_law_near kV_law_near dc_law_near pm_law_near cd_law_near ct_law_near : Value} {od_law_near an_law_near : Option Addr} {sl_law_near : Array (Option Value)}
    (a_law_near : PySem.W.nsIn K mainGlobals "_law_near" = some (some (.ref f_law_near)))
    (l_law_near : K.lookup f_law_near = some ⟨oc_law_near, od_law_near, .func (PySem.W.fnOf "_law_near" "_law_near" (defArgs s_law_near) (defBody s_law_near) (defScope s_law_near) .none kV_law_near dc_law_near pm_law_near an_law_near cd_law_near ct_law_near), sl_law_near⟩)
    (c_law_near : PySem.W.codeIn K cd_law_near "_law_near" = true) (k_law_near : PySem.W.keepIn K (.ref f_law_near) = true)
    {f_law_sample : Addr} {oc_law_sample kV_law_sample dc_law_sample pm_law_sample cd_law_sample ct_law_sample : Value} {od_law_sample an_law_sample : Option Addr} {sl_law_sample : Array (Option Value)}
    (a_law_sample : PySem.W.nsIn K mainGlobals "_law_sample" = some (some (.ref f_law_sample)))
    (l_law_sample : K.lookup f_law_sample = some ⟨oc_law_sample, od_law_sample, .func (PySem.W.fnOf "_law_sample" "_law_sample" (defArgs s_law_sample) (defBody s_law_sample) (defScope s_law_sample) .none kV_law_sample dc_law_sample pm_law_sample an_law_sample cd_law_sample ct_law_sample), sl_law_sample⟩)
    (c_law_sample : PySem.W.codeIn K cd_law_sample "_law_sample" = true) (k_law_sample : PySem.W.keepIn K (.ref f_law_sample) = true)
    {f_law_due : Addr} {oc_law_due kV_law_due dc_law_due pm_law_due cd_law_due ct_law_due : Value} {od_law_due an_law_due : Option Addr} {sl_law_due : Array (Option Value)}
    (a_law_due : PySem.W.nsIn K mainGlobals "_law_due" = some (some (.ref f_law_due)))
    (l_law_due : K.lookup f_law_due = some ⟨oc_law_due, od_law_due, .func (PySem.W.fnOf "_law_due" "_law_due" (defArgs s_law_due) (defBody s_law_due) (defScope s_law_due) .none kV_law_due dc_law_due pm_law_due an_law_due cd_law_due ct_law_due), sl_law_due⟩)
    (c_law_due : PySem.W.codeIn K cd_law_due "_law_due" = true) (k_law_due : PySem.W.keepIn K (.ref f_law_due) = true)
    {f_law_refuses : Addr} {oc_law_refuses kV_law_refuses dc_law_refuses pm_law_refuses cd_law_refuses ct_law_refuses : Value} {od_law_refuses an_law_refuses : Option Addr} {sl_law_refuses : Array (Option Value)}
    (a_law_refuses : PySem.W.nsIn K mainGlobals "_law_refuses" = some (some (.ref f_law_refuses)))
    (l_law_refuses : K.lookup f_law_refuses = some ⟨oc_law_refuses, od_law_refuses, .func (PySem.W.fnOf "_law_refuses" "_law_refuses" (defArgs s_law_refuses) (defBody s_law_refuses) (defScope s_law_refuses) .none kV_law_refuses dc_law_refuses pm_law_refuses an_law_refuses cd_law_refuses ct_law_refuses), sl_law_refuses⟩)
    (c_law_refuses : PySem.W.codeIn K cd_law_refuses "_law_refuses" = true) (k_law_refuses : PySem.W.keepIn K (.ref f_law_refuses) = true)
    {flaw : Addr} {oclaw kVlaw dclaw pmlaw cdlaw ctlaw : Value} {odlaw anlaw : Option Addr} {sllaw : Array (Option Value)}
    (alaw : PySem.W.nsIn K mainGlobals "law" = some (some (.ref flaw)))
    (llaw : K.lookup flaw = some ⟨oclaw, odlaw, .func (PySem.W.fnOf "law" "law" (defArgs slaw) (defBody slaw) (defScope slaw) .none kVlaw dclaw pmlaw anlaw cdlaw ctlaw), sllaw⟩)
    (claw : PySem.W.codeIn K cdlaw "law" = true) (klaw : PySem.W.keepIn K (.ref flaw) = true)
    (z_abs : PySem.W.nsIn K mainGlobals "abs" = some none)
    (z_int : PySem.W.nsIn K mainGlobals "int" = some none)
    (z_len : PySem.W.nsIn K mainGlobals "len" = some none)
    (z_range : PySem.W.nsIn K mainGlobals "range" = some none)
    (z_enumerate : PySem.W.nsIn K mainGlobals "enumerate" = some none)
    (z_repr : PySem.W.nsIn K mainGlobals "repr" = some none)
    (z_isinstance : PySem.W.nsIn K mainGlobals "isinstance" = some none)
    (z_ValueError : PySem.W.nsIn K mainGlobals "ValueError" = some none)
    {aO aZ aI : Addr} {oO oZ oI : Obj}
    (nONE : PySem.W.nsIn K mainGlobals "ONE" = some (some (.ref aO)))
    (lONE : K.lookup aO = some oO)
    (nZERO : PySem.W.nsIn K mainGlobals "ZERO" = some (some (.ref aZ)))
    (lZERO : K.lookup aZ = some oZ)
    (nIDENTITY : PySem.W.nsIn K mainGlobals "IDENTITY" = some (some (.ref aI)))
    (lIDENTITY : K.lookup aI = some oI)
    (tONE : oO.cls = .type "tuple") (vONE : ∃ its n, oO.data = .seq its n ∧ its.size ≤ sizeLine ∧ Vals [.int 1, .int 1] its.toList)
    (tZERO : oZ.cls = .type "tuple") (vZERO : ∃ its n, oZ.data = .seq its n ∧ its.size ≤ sizeLine ∧ Vals [.int 0, .int 1] its.toList)
    (tIDENTITY : oI.cls = .type "tuple") (vIDENTITY : ∃ its n, oI.data = .seq its n ∧ its.size ≤ sizeLine ∧ Vals [.ref aO, .ref aZ, .ref aZ, .ref aO, .ref aZ, .ref aZ] its.toList)
    {cN cR cS cE : Addr}
    (eN : PySem.W.nsIn K mainGlobals "NoRays" = some (some (.ref cN)))
    (eR : PySem.W.nsIn K mainGlobals "RaytrainError" = some (some (.ref cR)))
    (eS : PySem.W.nsIn K mainGlobals "CannotShift" = some (some (.ref cS)))
    (eE : PySem.W.nsIn K mainGlobals "NoSuchElement" = some (some (.ref cE)))
    (xN : PySem.W.excIn K cN [.type "ValueError", .type "Exception", .type "BaseException", .type "object"] "ValueError.__new__" = true)
    (kN : PySem.W.keepIn K (.ref cN) = true)
    (bN : PySem.W.subIn K (.ref cN) (.type "BaseException") = some true)
    (tN : PySem.W.typeIn K (.ref cN) = some (.type "type"))
    (e1 : PySem.W.findIn K (.ref cN) "__getattribute__" = some (some (.builtin "BaseException.__getattribute__")))
    (e2 : PySem.W.findIn K (.ref cN) "__getattr__" = some none)
    (e4 : PySem.W.hasDictIn K cN = true)
    (e5 : PySem.W.findIn K (.ref cN) "__class__" = some (some (.builtin "object.__class__")))
    (e6 : PySem.W.specialIn K (.builtin "object.__class__") "__get__" = some (some (.builtin "getset_descriptor.__get__")))
    (e7 : PySem.W.takesIn K (.builtin "object.__class__") = some true)
    (e8 : PySem.W.mroIn K cN (.type "object") = some true)
    (bR : PySem.W.subIn K (.ref cR) (.type "BaseException") = some true)
    (hR : PySem.W.hasDictIn K cR = true)
    (tR : PySem.W.typeIn K (.ref cR) = some (.type "type"))
    (sNR : PySem.W.subIn K (.ref cN) (.ref cR) = some true)
    (qS : (Value.ref cN == Value.ref cS) = false)
    (iS : PySem.W.isClsIn K cS = true)
    (tS : PySem.W.typeIn K (.ref cS) = some (.type "type"))
    (sNS : PySem.W.subIn K (.ref cN) (.ref cS) = some false)
    (qE : (Value.ref cN == Value.ref cE) = false)
    (iE : PySem.W.isClsIn K cE = true)
    (tE : PySem.W.typeIn K (.ref cE) = some (.type "type"))
    (sNE : PySem.W.subIn K (.ref cN) (.ref cE) = some false)
    (sNV : PySem.W.subIn K (.ref cN) (.type "ValueError") = some true) :
    ∃ fd : FuncData, (∀ (s : Shared) (u : Value), BindsTo s fd ⟨[u], []⟩ [("_law_script", u)]) ∧ ∀ base : Heap, K.In base → base.Ns mainGlobals mg → GOk P w K mg base CX0 10 fa fd ["_law_script"] (spLaw K) := by
  have e := hfa.symm.trans (PySem.W.mg_of X G alaw)
  cases e
  refine ⟨PySem.W.fnOf "law" "law" (defArgs slaw) (defBody slaw) (defScope slaw) .none kVlaw dclaw pmlaw anlaw cdlaw ctlaw, fun s u => .of_eq rfl, fun base _ _ => ?_⟩
  have mONE : mg "ONE" = some (.ref aO) := mg_is X G nONE
  have mZERO : mg "ZERO" = some (.ref aZ) := mg_is X G nZERO
  have mIDENTITY : mg "IDENTITY" = some (.ref aI) := mg_is X G nIDENTITY
  have cO : ∀ G, Is K G (.ref aO) (fr 1) := const_is lONE tONE vONE fun G => .cons (.int 1) (.cons (.int 1) .nil)
  have cZ : ∀ G, Is K G (.ref aZ) (fr 0) := const_is lZERO tZERO vZERO fun G => .cons (.int 0) (.cons (.int 1) .nil)
  have cI : ∀ G, Is K G (.ref aI) (mpd .id) := const_is lIDENTITY tIDENTITY vIDENTITY fun G => .cons (cO G) (.cons (cZ G) (.cons (cZ G) (.cons (cO G) (.cons (cZ G) (.cons (cZ G) .nil)))))
  have TE : Err K mg cN cR cS cE := ⟨mg_is X G eN, mg_is X G eR, mg_is X G eS, mg_is X G eE, mg_none X G z_ValueError, mg_none X G z_isinstance, ⟨e1, e2, bN, e4, e5, e6, e7, e8⟩, PySem.W.exm_ref bR hR tR sNR, kit_ref qS iS tS sNS, kit_ref qE iE tE sNE, kit_ty (by decide +kernel) sNV⟩
  have hcommon_divisor := has_common_divisor (P := P) (w := w) (base := base) (fun_mk (st := scommon_divisor) lcommon_divisor ccommon_divisor kcommon_divisor) (mg_is X G acommon_divisor) (mg_none X G z_abs)
  have hnegative := has_negative (P := P) (w := w) (base := base) (fun_mk (st := snegative) lnegative cnegative knegative) (mg_is X G anegative)
  have hsign := has_sign (P := P) (w := w) (base := base) (fun_mk (st := ssign) lsign csign ksign) (mg_is X G asign)
  have hedges_of := has_edges_of (P := P) (w := w) (base := base) (fun_mk (st := sedges_of) ledges_of cedges_of kedges_of) (mg_is X G aedges_of) (mg_none X G z_enumerate)
  have h_law_cell := has__law_cell (P := P) (w := w) (base := base) (fun_mk (st := s_law_cell) l_law_cell c_law_cell k_law_cell) (mg_is X G a_law_cell) (mg_none X G z_len)
  have h_law_row := has__law_row (P := P) (w := w) (base := base) (fun_mk (st := s_law_row) l_law_row c_law_row k_law_row) (mg_is X G a_law_row) (mg_none X G z_len) (mg_none X G z_range) (mg_none X G z_int)
  have h_law_draw := has__law_draw (P := P) (w := w) (base := base) (fun_mk (st := s_law_draw) l_law_draw c_law_draw k_law_draw) (mg_is X G a_law_draw) (mg_none X G z_len) (mg_none X G z_int)
  have h_law_same := has__law_same (P := P) (w := w) (base := base) (fun_mk (st := s_law_same) l_law_same c_law_same k_law_same) (mg_is X G a_law_same) (mg_none X G z_repr)
  have h_law_frac := has__law_frac (P := P) (w := w) (base := base) (fun_mk (st := s_law_frac) l_law_frac c_law_frac k_law_frac) (mg_is X G a_law_frac) (mg_none X G z_abs) (mg_none X G z_int)
  have h_law_neg := has__law_neg (P := P) (w := w) (base := base) (fun_mk (st := s_law_neg) l_law_neg c_law_neg k_law_neg) (mg_is X G a_law_neg)
  have h_law_less := has__law_less (P := P) (w := w) (base := base) (fun_mk (st := s_law_less) l_law_less c_law_less k_law_less) (mg_is X G a_law_less)
  have h_law_plane := has__law_plane (P := P) (w := w) (base := base) (fun_mk (st := s_law_plane) l_law_plane c_law_plane k_law_plane) (mg_is X G a_law_plane) (mg_none X G z_abs) (mg_none X G z_int)
  have h_law_near := has__law_near (P := P) (w := w) (base := base) (fun_mk (st := s_law_near) l_law_near c_law_near k_law_near) (mg_is X G a_law_near)
  have hfraction := has_fraction (P := P) (w := w) (base := base) lT hT lfraction cfraction kfraction (mg_is X G afraction) hcommon_divisor
  have h_law_box := has__law_box (P := P) (w := w) (base := base) (fun_mk (st := s_law_box) l_law_box c_law_box k_law_box) (mg_is X G a_law_box) (mg_none X G z_range) h_law_cell h_law_row
  have h_law_add := has__law_add (P := P) (w := w) (base := base) (fun_mk (st := s_law_add) l_law_add c_law_add k_law_add) (mg_is X G a_law_add) h_law_frac
  have h_law_mul := has__law_mul (P := P) (w := w) (base := base) (fun_mk (st := s_law_mul) l_law_mul c_law_mul k_law_mul) (mg_is X G a_law_mul) h_law_frac
  have h_law_div := has__law_div (P := P) (w := w) (base := base) (fun_mk (st := s_law_div) l_law_div c_law_div k_law_div) (mg_is X G a_law_div) h_law_frac
  have h_law_least := has__law_least (P := P) (w := w) (base := base) (fun_mk (st := s_law_least) l_law_least c_law_least k_law_least) (mg_is X G a_law_least) h_law_less
  have h_law_greatest := has__law_greatest (P := P) (w := w) (base := base) (fun_mk (st := s_law_greatest) l_law_greatest c_law_greatest k_law_greatest) (mg_is X G a_law_greatest) h_law_less
  have h_law_fraction := has__law_fraction (P := P) (w := w) (base := base) (fun_mk (st := s_law_fraction) l_law_fraction c_law_fraction k_law_fraction) (mg_is X G a_law_fraction) h_law_draw h_law_frac
  have h_law_blocks := has__law_blocks (P := P) (w := w) (base := base) (fun_mk (st := s_law_blocks) l_law_blocks c_law_blocks k_law_blocks) (mg_is X G a_law_blocks) h_law_less
  have hadd := has_add (P := P) (w := w) (base := base) (fun_mk (st := sadd) ladd cadd kadd) (mg_is X G aadd) hfraction
  have hmultiply := has_multiply (P := P) (w := w) (base := base) (fun_mk (st := smultiply) lmultiply cmultiply kmultiply) (mg_is X G amultiply) hfraction
  have hdivide := has_divide (P := P) (w := w) (base := base) (fun_mk (st := sdivide) ldivide cdivide kdivide) (mg_is X G adivide) hfraction
  have h_law_sub := has__law_sub (P := P) (w := w) (base := base) (fun_mk (st := s_law_sub) l_law_sub c_law_sub k_law_sub) (mg_is X G a_law_sub) h_law_add h_law_neg
  have h_law_nonzero := has__law_nonzero (P := P) (w := w) (base := base) (fun_mk (st := s_law_nonzero) l_law_nonzero c_law_nonzero k_law_nonzero) (mg_is X G a_law_nonzero) h_law_fraction
  have h_law_stop := has__law_stop (P := P) (w := w) (base := base) (fun_mk (st := s_law_stop) l_law_stop c_law_stop k_law_stop) (mg_is X G a_law_stop) h_law_draw h_law_fraction h_law_frac h_law_add
  have h_law_ray := has__law_ray (P := P) (w := w) (base := base) (fun_mk (st := s_law_ray) l_law_ray c_law_ray k_law_ray) (mg_is X G a_law_ray) h_law_fraction
  have hsubtract := has_subtract (P := P) (w := w) (base := base) (fun_mk (st := ssubtract) lsubtract csubtract ksubtract) (mg_is X G asubtract) hadd hnegative
  have helement_map := has_element_map (P := P) (w := w) (base := base) (fun_mk (st := selement_map) lelement_map celement_map kelement_map) (mg_is X G aelement_map) mONE mZERO mIDENTITY cO cZ cI hnegative hmultiply hdivide
  have hweighted := has_weighted (P := P) (w := w) (base := base) (fun_mk (st := sweighted) lweighted cweighted kweighted) (mg_is X G aweighted) hadd hmultiply
  have h_law_element := has__law_element (P := P) (w := w) (base := base) (fun_mk (st := s_law_element) l_law_element c_law_element k_law_element) (mg_is X G a_law_element) h_law_draw h_law_fraction h_law_nonzero h_law_stop
  have h_law_go := has__law_go (P := P) (w := w) (base := base) (fun_mk (st := s_law_go) l_law_go c_law_go k_law_go) (mg_is X G a_law_go) h_law_add h_law_sub h_law_mul h_law_div
  have h_law_line := has__law_line (P := P) (w := w) (base := base) (fun_mk (st := s_law_line) l_law_line c_law_line k_law_line) (mg_is X G a_law_line) h_law_sub h_law_mul h_law_div
  have hcompare := has_compare (P := P) (w := w) (base := base) (fun_mk (st := scompare) lcompare ccompare kcompare) (mg_is X G acompare) hsign hsubtract
  have happly_map := has_apply_map (P := P) (w := w) (base := base) (fun_mk (st := sapply_map) lapply_map capply_map kapply_map) (mg_is X G aapply_map) hadd hweighted
  have hcompose_maps := has_compose_maps (P := P) (w := w) (base := base) (fun_mk (st := scompose_maps) lcompose_maps ccompose_maps kcompose_maps) (mg_is X G acompose_maps) hadd hweighted
  have h_law_train := has__law_train (P := P) (w := w) (base := base) (fun_mk (st := s_law_train) l_law_train c_law_train k_law_train) (mg_is X G a_law_train) (mg_none X G z_range) h_law_draw h_law_element
  have h_law_out := has__law_out (P := P) (w := w) (base := base) (fun_mk (st := s_law_out) l_law_out c_law_out k_law_out) (mg_is X G a_law_out) h_law_go
  have h_law_exit := has__law_exit (P := P) (w := w) (base := base) (fun_mk (st := s_law_exit) l_law_exit c_law_exit k_law_exit) (mg_is X G a_law_exit) h_law_go h_law_blocks
  have h_law_bounds := has__law_bounds (P := P) (w := w) (base := base) (fun_mk (st := s_law_bounds) l_law_bounds c_law_bounds k_law_bounds) (mg_is X G a_law_bounds) h_law_line h_law_neg h_law_div h_law_add h_law_mul h_law_greatest h_law_least h_law_less
  have his_less := has_is_less (P := P) (w := w) (base := base) (fun_mk (st := sis_less) lis_less cis_less kis_less) (mg_is X G ais_less) hcompare
  have hray_transfer := has_ray_transfer (P := P) (w := w) (base := base) (fun_mk (st := sray_transfer) lray_transfer cray_transfer kray_transfer) (mg_is X G aray_transfer) mIDENTITY cI helement_map hcompose_maps
  have h_law_map := has__law_map (P := P) (w := w) (base := base) (fun_mk (st := s_law_map) l_law_map c_law_map k_law_map) (mg_is X G a_law_map) h_law_out h_law_sub
  have h_law_empty := has__law_empty (P := P) (w := w) (base := base) (fun_mk (st := s_law_empty) l_law_empty c_law_empty k_law_empty) (mg_is X G a_law_empty) h_law_bounds
  have h_law_sample := has__law_sample (P := P) (w := w) (base := base) (fun_mk (st := s_law_sample) l_law_sample c_law_sample k_law_sample) (mg_is X G a_law_sample) h_law_bounds h_law_near h_law_plane h_law_neg
  have h_law_due := has__law_due (P := P) (w := w) (base := base) (fun_mk (st := s_law_due) l_law_due c_law_due k_law_due) (mg_is X G a_law_due) (mg_none X G z_len) (mg_none X G z_range) h_law_out h_law_sub h_law_least h_law_greatest
  have hleast_of := has_least_of (P := P) (w := w) (base := base) (fun_mk (st := sleast_of) lleast_of cleast_of kleast_of) (mg_is X G aleast_of) his_less
  have hclearance := has_clearance (P := P) (w := w) (base := base) (fun_mk (st := sclearance) lclearance cclearance kclearance) (mg_is X G aclearance) happly_map hray_transfer hsubtract
  have h_law_edges := has__law_edges (P := P) (w := w) (base := base) (fun_mk (st := s_law_edges) l_law_edges c_law_edges k_law_edges) (mg_is X G a_law_edges) (mg_none X G z_len) (mg_none X G z_range) h_law_map h_law_plane h_law_neg h_law_sub
  have hclearances := has_clearances (P := P) (w := w) (base := base) (fun_mk (st := sclearances) lclearances cclearances kclearances) (mg_is X G aclearances) (mg_is X G eN) xN kN bN tN hedges_of hclearance hleast_of
  have h_law_planes := has__law_planes (P := P) (w := w) (base := base) (fun_mk (st := s_law_planes) l_law_planes c_law_planes k_law_planes) (mg_is X G a_law_planes) h_law_edges
  have h_law_refuses := has__law_refuses (P := P) (w := w) (base := base) (fun_mk (st := s_law_refuses) l_law_refuses c_law_refuses k_law_refuses) (mg_is X G a_law_refuses) TE hclearances
  exact has_law (P := P) (w := w) (base := base) (fun_mk (st := slaw) llaw claw klaw) (mg_is X G alaw) (mg_none X G z_range) (mg_none X G z_repr) h_law_box h_law_draw h_law_train h_law_ray h_law_planes h_law_empty h_law_sample hclearances h_law_due h_law_same h_law_exit h_law_refuses
end Rt

open PyProof.Rows PySem.W PySem
set_option maxHeartbeats 0 in
open_top hd for PySem.Challenge.rw_raytrain_k50_clearances
set_option maxHeartbeats 0 in
theorem PySem.Challenge.cw_raytrain_k50_clearances_holds : PySem.Challenge.rw_raytrain_k50_clearances.Holds := by
  refine hd (by
    k_fill
    refine Rt.walkG (l := PySem.Challenge.rw_raytrain_k50_clearances) (n := 63) (k := 10) rfl (by decide) rfl ⟨rfl, by decide, by decide⟩ (fun w h Y => PySem.W.kIn_of Y) ?F
    case F =>
      intro w mg fa h KX G hmg
      refine' Rt.all_mk KX G hmg ?acommon_divisor ?lcommon_divisor ?ccommon_divisor ?kcommon_divisor ?afraction ?lfraction ?lT ?hT ?cfraction ?kfraction ?aadd ?ladd ?cadd ?kadd ?anegative ?lnegative ?cnegative ?knegative ?asubtract ?lsubtract ?csubtract ?ksubtract ?amultiply ?lmultiply ?cmultiply ?kmultiply ?adivide ?ldivide ?cdivide ?kdivide ?asign ?lsign ?csign ?ksign ?acompare ?lcompare ?ccompare ?kcompare ?ais_less ?lis_less ?cis_less ?kis_less ?aleast_of ?lleast_of ?cleast_of ?kleast_of ?aelement_map ?lelement_map ?celement_map ?kelement_map ?aweighted ?lweighted ?cweighted ?kweighted ?aapply_map ?lapply_map ?capply_map ?kapply_map ?acompose_maps ?lcompose_maps ?ccompose_maps ?kcompose_maps ?aray_transfer ?lray_transfer ?cray_transfer ?kray_transfer ?aedges_of ?ledges_of ?cedges_of ?kedges_of ?aclearance ?lclearance ?cclearance ?kclearance ?aclearances ?lclearances ?cclearances ?kclearances ?a_law_cell ?l_law_cell ?c_law_cell ?k_law_cell ?a_law_row ?l_law_row ?c_law_row ?k_law_row ?a_law_box ?l_law_box ?c_law_box ?k_law_box ?a_law_draw ?l_law_draw ?c_law_draw ?k_law_draw ?a_law_same ?l_law_same ?c_law_same ?k_law_same ?a_law_frac ?l_law_frac ?c_law_frac ?k_law_frac ?a_law_add ?l_law_add ?c_law_add ?k_law_add ?a_law_neg ?l_law_neg ?c_law_neg ?k_law_neg ?a_law_sub ?l_law_sub ?c_law_sub ?k_law_sub ?a_law_mul ?l_law_mul ?c_law_mul ?k_law_mul ?a_law_div ?l_law_div ?c_law_div ?k_law_div ?a_law_less ?l_law_less ?c_law_less ?k_law_less ?a_law_least ?l_law_least ?c_law_least ?k_law_least ?a_law_greatest ?l_law_greatest ?c_law_greatest ?k_law_greatest ?a_law_fraction ?l_law_fraction ?c_law_fraction ?k_law_fraction ?a_law_nonzero ?l_law_nonzero ?c_law_nonzero ?k_law_nonzero ?a_law_stop ?l_law_stop ?c_law_stop ?k_law_stop ?a_law_element ?l_law_element ?c_law_element ?k_law_element ?a_law_train ?l_law_train ?c_law_train ?k_law_train ?a_law_ray ?l_law_ray ?c_law_ray ?k_law_ray ?a_law_go ?l_law_go ?c_law_go ?k_law_go ?a_law_blocks ?l_law_blocks ?c_law_blocks ?k_law_blocks ?a_law_out ?l_law_out ?c_law_out ?k_law_out ?a_law_exit ?l_law_exit ?c_law_exit ?k_law_exit ?a_law_map ?l_law_map ?c_law_map ?k_law_map ?a_law_plane ?l_law_plane ?c_law_plane ?k_law_plane ?a_law_edges ?l_law_edges ?c_law_edges ?k_law_edges ?a_law_planes ?l_law_planes ?c_law_planes ?k_law_planes ?a_law_line ?l_law_line ?c_law_line ?k_law_line ?a_law_bounds ?l_law_bounds ?c_law_bounds ?k_law_bounds ?a_law_empty ?l_law_empty ?c_law_empty ?k_law_empty ?a_law_near ?l_law_near ?c_law_near ?k_law_near ?a_law_sample ?l_law_sample ?c_law_sample ?k_law_sample ?a_law_due ?l_law_due ?c_law_due ?k_law_due ?a_law_refuses ?l_law_refuses ?c_law_refuses ?k_law_refuses ?alaw ?llaw ?claw ?klaw ?z_abs ?z_int ?z_len ?z_range ?z_enumerate ?z_repr ?z_isinstance ?z_ValueError ?nONE ?lONE ?nZERO ?lZERO ?nIDENTITY ?lIDENTITY ?tONE ?vONE ?tZERO ?vZERO ?tIDENTITY ?vIDENTITY ?eN ?eR ?eS ?eE ?xN ?kN ?bN ?tN ?e1 ?e2 ?e4 ?e5 ?e6 ?e7 ?e8 ?bR ?hR ?tR ?sNR ?qS ?iS ?tS ?sNS ?qE ?iE ?tE ?sNE ?sNV
      (case acommon_divisor => k_is)
      (case lcommon_divisor => k_is)
      (case ccommon_divisor => k_is)
      (case kcommon_divisor => k_is)
      (case afraction => k_is)
      (case lfraction => k_is)
      (case lT => k_is)
      (case hT => rfl)
      (case cfraction => k_is)
      (case kfraction => k_is)
      (case aadd => k_is)
      (case ladd => k_is)
      (case cadd => k_is)
      (case kadd => k_is)
      (case anegative => k_is)
      (case lnegative => k_is)
      (case cnegative => k_is)
      (case knegative => k_is)
      (case asubtract => k_is)
      (case lsubtract => k_is)
      (case csubtract => k_is)
      (case ksubtract => k_is)
      (case amultiply => k_is)
      (case lmultiply => k_is)
      (case cmultiply => k_is)
      (case kmultiply => k_is)
      (case adivide => k_is)
      (case ldivide => k_is)
      (case cdivide => k_is)
      (case kdivide => k_is)
      (case asign => k_is)
      (case lsign => k_is)
      (case csign => k_is)
      (case ksign => k_is)
      (case acompare => k_is)
      (case lcompare => k_is)
      (case ccompare => k_is)
      (case kcompare => k_is)
      (case ais_less => k_is)
      (case lis_less => k_is)
      (case cis_less => k_is)
      (case kis_less => k_is)
      (case aleast_of => k_is)
      (case lleast_of => k_is)
      (case cleast_of => k_is)
      (case kleast_of => k_is)
      (case aelement_map => k_is)
      (case lelement_map => k_is)
      (case celement_map => k_is)
      (case kelement_map => k_is)
      (case aweighted => k_is)
      (case lweighted => k_is)
      (case cweighted => k_is)
      (case kweighted => k_is)
      (case aapply_map => k_is)
      (case lapply_map => k_is)
      (case capply_map => k_is)
      (case kapply_map => k_is)
      (case acompose_maps => k_is)
      (case lcompose_maps => k_is)
      (case ccompose_maps => k_is)
      (case kcompose_maps => k_is)
      (case aray_transfer => k_is)
      (case lray_transfer => k_is)
      (case cray_transfer => k_is)
      (case kray_transfer => k_is)
      (case aedges_of => k_is)
      (case ledges_of => k_is)
      (case cedges_of => k_is)
      (case kedges_of => k_is)
      (case aclearance => k_is)
      (case lclearance => k_is)
      (case cclearance => k_is)
      (case kclearance => k_is)
      (case aclearances => k_is)
      (case lclearances => k_is)
      (case cclearances => k_is)
      (case kclearances => k_is)
      (case a_law_cell => k_is)
      (case l_law_cell => k_is)
      (case c_law_cell => k_is)
      (case k_law_cell => k_is)
      (case a_law_row => k_is)
      (case l_law_row => k_is)
      (case c_law_row => k_is)
      (case k_law_row => k_is)
      (case a_law_box => k_is)
      (case l_law_box => k_is)
      (case c_law_box => k_is)
      (case k_law_box => k_is)
      (case a_law_draw => k_is)
      (case l_law_draw => k_is)
      (case c_law_draw => k_is)
      (case k_law_draw => k_is)
      (case a_law_same => k_is)
      (case l_law_same => k_is)
      (case c_law_same => k_is)
      (case k_law_same => k_is)
      (case a_law_frac => k_is)
      (case l_law_frac => k_is)
      (case c_law_frac => k_is)
      (case k_law_frac => k_is)
      (case a_law_add => k_is)
      (case l_law_add => k_is)
      (case c_law_add => k_is)
      (case k_law_add => k_is)
      (case a_law_neg => k_is)
      (case l_law_neg => k_is)
      (case c_law_neg => k_is)
      (case k_law_neg => k_is)
      (case a_law_sub => k_is)
      (case l_law_sub => k_is)
      (case c_law_sub => k_is)
      (case k_law_sub => k_is)
      (case a_law_mul => k_is)
      (case l_law_mul => k_is)
      (case c_law_mul => k_is)
      (case k_law_mul => k_is)
      (case a_law_div => k_is)
      (case l_law_div => k_is)
      (case c_law_div => k_is)
      (case k_law_div => k_is)
      (case a_law_less => k_is)
      (case l_law_less => k_is)
      (case c_law_less => k_is)
      (case k_law_less => k_is)
      (case a_law_least => k_is)
      (case l_law_least => k_is)
      (case c_law_least => k_is)
      (case k_law_least => k_is)
      (case a_law_greatest => k_is)
      (case l_law_greatest => k_is)
      (case c_law_greatest => k_is)
      (case k_law_greatest => k_is)
      (case a_law_fraction => k_is)
      (case l_law_fraction => k_is)
      (case c_law_fraction => k_is)
      (case k_law_fraction => k_is)
      (case a_law_nonzero => k_is)
      (case l_law_nonzero => k_is)
      (case c_law_nonzero => k_is)
      (case k_law_nonzero => k_is)
      (case a_law_stop => k_is)
      (case l_law_stop => k_is)
      (case c_law_stop => k_is)
      (case k_law_stop => k_is)
      (case a_law_element => k_is)
      (case l_law_element => k_is)
      (case c_law_element => k_is)
      (case k_law_element => k_is)
      (case a_law_train => k_is)
      (case l_law_train => k_is)
      (case c_law_train => k_is)
      (case k_law_train => k_is)
      (case a_law_ray => k_is)
      (case l_law_ray => k_is)
      (case c_law_ray => k_is)
      (case k_law_ray => k_is)
      (case a_law_go => k_is)
      (case l_law_go => k_is)
      (case c_law_go => k_is)
      (case k_law_go => k_is)
      (case a_law_blocks => k_is)
      (case l_law_blocks => k_is)
      (case c_law_blocks => k_is)
      (case k_law_blocks => k_is)
      (case a_law_out => k_is)
      (case l_law_out => k_is)
      (case c_law_out => k_is)
      (case k_law_out => k_is)
      (case a_law_exit => k_is)
      (case l_law_exit => k_is)
      (case c_law_exit => k_is)
      (case k_law_exit => k_is)
      (case a_law_map => k_is)
      (case l_law_map => k_is)
      (case c_law_map => k_is)
      (case k_law_map => k_is)
      (case a_law_plane => k_is)
      (case l_law_plane => k_is)
      (case c_law_plane => k_is)
      (case k_law_plane => k_is)
      (case a_law_edges => k_is)
      (case l_law_edges => k_is)
      (case c_law_edges => k_is)
      (case k_law_edges => k_is)
      (case a_law_planes => k_is)
      (case l_law_planes => k_is)
      (case c_law_planes => k_is)
      (case k_law_planes => k_is)
      (case a_law_line => k_is)
      (case l_law_line => k_is)
      (case c_law_line => k_is)
      (case k_law_line => k_is)
      (case a_law_bounds => k_is)
      (case l_law_bounds => k_is)
      (case c_law_bounds => k_is)
      (case k_law_bounds => k_is)
      (case a_law_empty => k_is)
      (case l_law_empty => k_is)
      (case c_law_empty => k_is)
      (case k_law_empty => k_is)
      (case a_law_near => k_is)
      (case l_law_near => k_is)
      (case c_law_near => k_is)
      (case k_law_near => k_is)
      (case a_law_sample => k_is)
      (case l_law_sample => k_is)
      (case c_law_sample => k_is)
      (case k_law_sample => k_is)
      (case a_law_due => k_is)
      (case l_law_due => k_is)
      (case c_law_due => k_is)
      (case k_law_due => k_is)
      (case a_law_refuses => k_is)
      (case l_law_refuses => k_is)
      (case c_law_refuses => k_is)
      (case k_law_refuses => k_is)
      (case alaw => k_is)
      (case llaw => k_is)
      (case claw => k_is)
      (case klaw => k_is)
      (case z_abs => k_is)
      (case z_int => k_is)
      (case z_len => k_is)
      (case z_range => k_is)
      (case z_enumerate => k_is)
      (case z_repr => k_is)
      (case z_isinstance => k_is)
      (case z_ValueError => k_is)
      (case nONE => k_is)
      (case lONE => k_is)
      (case nZERO => k_is)
      (case lZERO => k_is)
      (case nIDENTITY => k_is)
      (case lIDENTITY => k_is)
      (case tONE => rfl)
      (case vONE => exact ⟨_, _, rfl, (by decide), .cons ⟨_, rfl⟩ (.cons ⟨_, rfl⟩ .nil)⟩)
      (case tZERO => rfl)
      (case vZERO => exact ⟨_, _, rfl, (by decide), .cons ⟨_, rfl⟩ (.cons ⟨_, rfl⟩ .nil)⟩)
      (case tIDENTITY => rfl)
      (case vIDENTITY => exact ⟨_, _, rfl, (by decide), .cons rfl (.cons rfl (.cons rfl (.cons rfl (.cons rfl (.cons rfl .nil)))))⟩)
      (case eN => k_is)
      (case eR => k_is)
      (case eS => k_is)
      (case eE => k_is)
      (case xN => first | k_exc | k_is)
      (case kN => k_is)
      (case bN => k_is)
      (case tN => k_is)
      (case e1 => k_is)
      (case e2 => k_is)
      (case e4 => k_is)
      (case e5 => k_is)
      (case e6 => k_is)
      (case e7 => k_is)
      (case e8 => k_is)
      (case bR => k_is)
      (case hR => k_is)
      (case tR => k_is)
      (case sNR => k_is)
      (case qS => rfl)
      (case iS => k_is)
      (case tS => k_is)
      (case sNS => k_is)
      (case qE => rfl)
      (case iE => k_is)
      (case tE => k_is)
      (case sNE => k_is)
      (case sNV => k_is)
  )
