import PyProof.Rows.All
import Wide.All
import OpenK.AllK
import Wide.FinOn
import HandS.ForMost
import HandS.Codes
import HandS.Walk
import HandS.Wide
import HandS.WideBits
import HandS.Gcd
import HandS.Deep
import HandS.TupAny
import HandS.Zip
import HandS.DictComp
import HandS.Style
import HandS.EndBits
import HandS.SortKw
import KE.SortData
import KE.DataMinMax
import KE.KMathG
import HandS.IsInst
import KE.DatumOrd
import PySem.Challenge.RW_turnprimes_k76_whole_tree
set_option Elab.async false
set_option linter.all false
set_option maxRecDepth 100000
set_option maxHeartbeats 4000000
section
set_option autoImplicit false
/-! Hurwitz numbers by doubled parts: plain mathematics, no program in sight. -/
namespace TP
structure Hq where
  a : Int
  b : Int
  c : Int
  d : Int
deriving DecidableEq
theorem Hq.ext' {p q : Hq} (h1 : p.a = q.a) (h2 : p.b = q.b) (h3 : p.c = q.c) (h4 : p.d = q.d) : p = q := by
  cases p; cases q; simp_all
def raw1 (p q : Hq) : Int := p.a * q.a - p.b * q.b - p.c * q.c - p.d * q.d
def raw2 (p q : Hq) : Int := p.a * q.b + p.b * q.a + p.c * q.d - p.d * q.c
def raw3 (p q : Hq) : Int := p.a * q.c - p.b * q.d + p.c * q.a + p.d * q.b
def raw4 (p q : Hq) : Int := p.a * q.d + p.b * q.c - p.c * q.b + p.d * q.a
def mul (p q : Hq) : Hq := ⟨raw1 p q / 2, raw2 p q / 2, raw3 p q / 2, raw4 p q / 2⟩
/-- four integers, all even or all odd -/
def IsN (q : Hq) : Prop := q.b % 2 = q.a % 2 ∧ q.c % 2 = q.a % 2 ∧ q.d % 2 = q.a % 2
instance (q : Hq) : Decidable (IsN q) := by unfold IsN; infer_instance
def cj (q : Hq) : Hq := ⟨q.a, -q.b, -q.c, -q.d⟩
def sub (p q : Hq) : Hq := ⟨p.a - q.a, p.b - q.b, p.c - q.c, p.d - q.d⟩
def scl (n : Int) (q : Hq) : Hq := ⟨n * q.a, n * q.b, n * q.c, n * q.d⟩
def n4 (q : Hq) : Int := q.a * q.a + q.b * q.b + q.c * q.c + q.d * q.d
def nrm (q : Hq) : Int := n4 q / 4
def one : Hq := ⟨2, 0, 0, 0⟩
def zero : Hq := ⟨0, 0, 0, 0⟩

theorem IsN.parts {q : Hq} (h : IsN q) : ∃ e a b c d : Int, (e = 0 ∨ e = 1) ∧ q = ⟨2 * a + e, 2 * b + e, 2 * c + e, 2 * d + e⟩ := by
  obtain ⟨h1, h2, h3⟩ := h
  refine ⟨q.a % 2, q.a / 2, q.b / 2, q.c / 2, q.d / 2, by omega, Hq.ext' ?_ ?_ ?_ ?_⟩ <;> simp only <;> omega

theorem mul_core {p q : Hq} (hp : IsN p) (hq : IsN q) : (2 * (mul p q).a = raw1 p q ∧ 2 * (mul p q).b = raw2 p q ∧ 2 * (mul p q).c = raw3 p q ∧ 2 * (mul p q).d = raw4 p q) ∧ IsN (mul p q) := by
  obtain ⟨e, a, b, c, d, he, rfl⟩ := hp.parts
  obtain ⟨f, a', b', c', d', hf, rfl⟩ := hq.parts
  have key : ∀ S T : Int, raw1 ⟨2 * a + e, 2 * b + e, 2 * c + e, 2 * d + e⟩ ⟨2 * a' + f, 2 * b' + f, 2 * c' + f, 2 * d' + f⟩ = 2 * (2 * (a * a' - b * b' - c * c' - d * d') + (f * (a - b - c - d) + e * (a' - b' - c' - d')) - e * f) := fun _ _ => by
    simp only [raw1]; grind
  have k1 := key 0 0
  have k2 : raw2 ⟨2 * a + e, 2 * b + e, 2 * c + e, 2 * d + e⟩ ⟨2 * a' + f, 2 * b' + f, 2 * c' + f, 2 * d' + f⟩ = 2 * (2 * (a * b' + b * a' + c * d' - d * c') + (f * (a + b + c - d) + e * (b' + a' + d' - c')) + e * f) := by
    simp only [raw2]; grind
  have k3 : raw3 ⟨2 * a + e, 2 * b + e, 2 * c + e, 2 * d + e⟩ ⟨2 * a' + f, 2 * b' + f, 2 * c' + f, 2 * d' + f⟩ = 2 * (2 * (a * c' - b * d' + c * a' + d * b') + (f * (a - b + c + d) + e * (c' - d' + a' + b')) + e * f) := by
    simp only [raw3]; grind
  have k4 : raw4 ⟨2 * a + e, 2 * b + e, 2 * c + e, 2 * d + e⟩ ⟨2 * a' + f, 2 * b' + f, 2 * c' + f, 2 * d' + f⟩ = 2 * (2 * (a * d' + b * c' - c * b' + d * a') + (f * (a + b - c + d) + e * (d' + c' - b' + a')) + e * f) := by
    simp only [raw4]; grind
  unfold IsN mul
  simp only
  rw [k1, k2, k3, k4]
  rcases he with rfl | rfl <;> rcases hf with rfl | rfl <;> simp only [Int.zero_mul, Int.one_mul] <;> omega

theorem mul_isN {p q : Hq} (hp : IsN p) (hq : IsN q) : IsN (mul p q) := (mul_core hp hq).2
theorem cj_isN {q : Hq} (h : IsN q) : IsN (cj q) := by
  unfold IsN cj at *; simp only; omega
theorem sub_isN {p q : Hq} (hp : IsN p) (hq : IsN q) : IsN (sub p q) := by
  unfold IsN sub at *; simp only; omega
theorem scl_isN {q : Hq} (n : Int) (h : IsN q) : IsN (scl n q) := by
  obtain ⟨e, a, b, c, d, he, rfl⟩ := h.parts
  unfold IsN scl
  simp only [Int.mul_add]
  have : ∀ x : Int, n * (2 * x) = 2 * (n * x) := fun x => by grind
  simp only [this]
  omega
theorem one_isN : IsN one := by decide
theorem zero_isN : IsN zero := by decide

/-- associativity -/
theorem mul_assoc' {p q r : Hq} (hp : IsN p) (hq : IsN q) (hr : IsN r) : mul (mul p q) r = mul p (mul q r) := by
  obtain ⟨⟨a1, a2, a3, a4⟩, n1⟩ := mul_core hp hq
  obtain ⟨⟨b1, b2, b3, b4⟩, n2⟩ := mul_core hq hr
  obtain ⟨⟨c1, c2, c3, c4⟩, _⟩ := mul_core n1 hr
  obtain ⟨⟨d1, d2, d3, d4⟩, _⟩ := mul_core hp n2
  generalize mul (mul p q) r = X at *
  generalize mul p (mul q r) = Y at *
  generalize mul p q = S at *
  generalize mul q r = T at *
  simp only [raw1, raw2, raw3, raw4] at *
  apply Hq.ext'
  · have e1 : 4 * X.a = (2 * S.a) * r.a - (2 * S.b) * r.b - (2 * S.c) * r.c - (2 * S.d) * r.d := by grind only
    have e2 : 4 * Y.a = p.a * (2 * T.a) - p.b * (2 * T.b) - p.c * (2 * T.c) - p.d * (2 * T.d) := by grind only
    rw [a1, a2, a3, a4] at e1; rw [b1, b2, b3, b4] at e2
    have e3 : 4 * X.a = 4 * Y.a := by rw [e1, e2]; grind only
    omega
  · have e1 : 4 * X.b = (2 * S.a) * r.b + (2 * S.b) * r.a + (2 * S.c) * r.d - (2 * S.d) * r.c := by grind only
    have e2 : 4 * Y.b = p.a * (2 * T.b) + p.b * (2 * T.a) + p.c * (2 * T.d) - p.d * (2 * T.c) := by grind only
    rw [a1, a2, a3, a4] at e1; rw [b1, b2, b3, b4] at e2
    have e3 : 4 * X.b = 4 * Y.b := by rw [e1, e2]; grind only
    omega
  · have e1 : 4 * X.c = (2 * S.a) * r.c - (2 * S.b) * r.d + (2 * S.c) * r.a + (2 * S.d) * r.b := by grind only
    have e2 : 4 * Y.c = p.a * (2 * T.c) - p.b * (2 * T.d) + p.c * (2 * T.a) + p.d * (2 * T.b) := by grind only
    rw [a1, a2, a3, a4] at e1; rw [b1, b2, b3, b4] at e2
    have e3 : 4 * X.c = 4 * Y.c := by rw [e1, e2]; grind only
    omega
  · have e1 : 4 * X.d = (2 * S.a) * r.d + (2 * S.b) * r.c - (2 * S.c) * r.b + (2 * S.d) * r.a := by grind only
    have e2 : 4 * Y.d = p.a * (2 * T.d) + p.b * (2 * T.c) - p.c * (2 * T.b) + p.d * (2 * T.a) := by grind only
    rw [a1, a2, a3, a4] at e1; rw [b1, b2, b3, b4] at e2
    have e3 : 4 * X.d = 4 * Y.d := by rw [e1, e2]; grind only
    omega

theorem half {x y : Int} (h : 2 * x = 2 * y) : x = y := by omega
theorem nrm_core {q : Hq} (h : IsN q) : 4 * nrm q = n4 q := by
  obtain ⟨e, a, b, c, d, he, rfl⟩ := h.parts
  have k : n4 ⟨2 * a + e, 2 * b + e, 2 * c + e, 2 * d + e⟩ = 4 * (a * a + b * b + c * c + d * d + e * (a + b + c + d) + e * e) := by
    simp only [n4]; grind only
  unfold nrm; rw [k]; omega
theorem nrm_mul {p q : Hq} (hp : IsN p) (hq : IsN q) : nrm (mul p q) = nrm p * nrm q := by
  obtain ⟨⟨a1, a2, a3, a4⟩, n1⟩ := mul_core hp hq
  have h1 := nrm_core hp
  have h2 := nrm_core hq
  have h3 := nrm_core n1
  have e : 4 * n4 (mul p q) = n4 p * n4 q := by
    have : 4 * n4 (mul p q) = (2 * (mul p q).a) * (2 * (mul p q).a) + (2 * (mul p q).b) * (2 * (mul p q).b) + (2 * (mul p q).c) * (2 * (mul p q).c) + (2 * (mul p q).d) * (2 * (mul p q).d) := by
      simp only [n4]; grind only
    rw [this, a1, a2, a3, a4]
    simp only [raw1, raw2, raw3, raw4, n4]; grind only
  rw [← h1, ← h2, ← h3] at e
  have : 16 * nrm (mul p q) = 16 * (nrm p * nrm q) := by grind only
  omega
theorem nrm_cj (q : Hq) : nrm (cj q) = nrm q := by
  simp only [nrm, n4, cj, Int.neg_mul_neg]
theorem sq_nn (x : Int) : 0 ≤ x * x := by
  rcases Int.le_total 0 x with h | h
  · exact Int.mul_nonneg h h
  · exact Int.mul_nonneg_of_nonpos_of_nonpos h h
theorem n4_nonneg (q : Hq) : 0 ≤ n4 q := by
  have := sq_nn
  unfold n4
  have h1 := this q.a; have h2 := this q.b; have h3 := this q.c; have h4 := this q.d
  omega
theorem nrm_nonneg (q : Hq) : 0 ≤ nrm q := by
  have := n4_nonneg q
  unfold nrm; omega
theorem sq_le {x : Int} : x ≤ x * x := by
  rcases Int.lt_or_le x 1 with h | h
  · have := sq_nn x; omega
  · have := Int.mul_le_mul_of_nonneg_left h (by omega : 0 ≤ x); omega
theorem sq_pos {x : Int} (h : x ≠ 0) : 0 < x * x := by
  rcases Int.lt_or_gt_of_ne h with h | h
  · exact Int.mul_pos_of_neg_of_neg h h
  · exact Int.mul_pos h h
theorem nrm_pos {q : Hq} (h : IsN q) (hz : q ≠ zero) : 0 < nrm q := by
  have e := nrm_core h
  have : 0 < n4 q := by
    have f := sq_nn
    have h1 := f q.a; have h2 := f q.b; have h3 := f q.c; have h4 := f q.d
    unfold n4
    by_cases a : q.a = 0
    · by_cases b : q.b = 0
      · by_cases c : q.c = 0
        · by_cases d : q.d = 0
          · exact absurd (Hq.ext' a b c d) hz
          · have := sq_pos d; omega
        · have := sq_pos c; omega
      · have := sq_pos b; omega
    · have := sq_pos a; omega
  omega
theorem nrm_zero : nrm zero = 0 := by decide
theorem nrm_one : nrm one = 1 := by decide
theorem cj_mul {p q : Hq} (hp : IsN p) (hq : IsN q) : cj (mul p q) = mul (cj q) (cj p) := by
  obtain ⟨⟨a1, a2, a3, a4⟩, _⟩ := mul_core hp hq
  obtain ⟨⟨b1, b2, b3, b4⟩, _⟩ := mul_core (cj_isN hq) (cj_isN hp)
  generalize mul p q = X at *
  generalize mul (cj q) (cj p) = Y at *
  simp only [raw1, raw2, raw3, raw4, cj] at *
  apply Hq.ext' <;> simp only
  · have : 2 * X.a = 2 * Y.a := by rw [a1, b1]; grind only
    omega
  · have : 2 * -X.b = 2 * Y.b := by rw [b2]; grind only
    omega
  · have : 2 * -X.c = 2 * Y.c := by rw [b3]; grind only
    omega
  · have : 2 * -X.d = 2 * Y.d := by rw [b4]; grind only
    omega
theorem cj_cj (q : Hq) : cj (cj q) = q := by simp [cj]
theorem mul_one' (q : Hq) : mul q one = q := by
  apply Hq.ext' <;> simp only [mul, raw1, raw2, raw3, raw4, one, Int.mul_zero] <;> omega
theorem one_mul' (q : Hq) : mul one q = q := by
  apply Hq.ext' <;> simp only [mul, raw1, raw2, raw3, raw4, one, Int.zero_mul] <;> omega
theorem mul_zero' (q : Hq) : mul q zero = zero := by
  apply Hq.ext' <;> simp only [mul, raw1, raw2, raw3, raw4, zero, Int.mul_zero] <;> omega
theorem scl_scl (m n : Int) (q : Hq) : scl m (scl n q) = scl (m * n) q := by
  simp only [scl, Int.mul_assoc]
theorem scl_one (q : Hq) : scl 1 q = q := by simp [scl]
theorem mul_scl {p q : Hq} (hp : IsN p) (hq : IsN q) (n : Int) : mul p (scl n q) = scl n (mul p q) := by
  obtain ⟨⟨a1, a2, a3, a4⟩, _⟩ := mul_core hp hq
  obtain ⟨⟨b1, b2, b3, b4⟩, _⟩ := mul_core hp (scl_isN n hq)
  generalize mul p q = X at *
  generalize mul p (scl n q) = Y at *
  simp only [raw1, raw2, raw3, raw4, scl] at *
  apply Hq.ext' <;> simp only
  · have : 2 * Y.a = n * (2 * X.a) := by rw [a1, b1]; grind only
    have e : n * (2 * X.a) = 2 * (n * X.a) := by grind only
    omega
  · have : 2 * Y.b = n * (2 * X.b) := by rw [a2, b2]; grind only
    have e : n * (2 * X.b) = 2 * (n * X.b) := by grind only
    omega
  · have : 2 * Y.c = n * (2 * X.c) := by rw [a3, b3]; grind only
    have e : n * (2 * X.c) = 2 * (n * X.c) := by grind only
    omega
  · have : 2 * Y.d = n * (2 * X.d) := by rw [a4, b4]; grind only
    have e : n * (2 * X.d) = 2 * (n * X.d) := by grind only
    omega
theorem scl_mul {p q : Hq} (hp : IsN p) (hq : IsN q) (n : Int) : mul (scl n p) q = scl n (mul p q) := by
  obtain ⟨⟨a1, a2, a3, a4⟩, _⟩ := mul_core hp hq
  obtain ⟨⟨b1, b2, b3, b4⟩, _⟩ := mul_core (scl_isN n hp) hq
  generalize mul p q = X at *
  generalize mul (scl n p) q = Y at *
  simp only [raw1, raw2, raw3, raw4, scl] at *
  apply Hq.ext' <;> simp only
  · have : 2 * Y.a = n * (2 * X.a) := by rw [a1, b1]; grind only
    have e : n * (2 * X.a) = 2 * (n * X.a) := by grind only
    omega
  · have : 2 * Y.b = n * (2 * X.b) := by rw [a2, b2]; grind only
    have e : n * (2 * X.b) = 2 * (n * X.b) := by grind only
    omega
  · have : 2 * Y.c = n * (2 * X.c) := by rw [a3, b3]; grind only
    have e : n * (2 * X.c) = 2 * (n * X.c) := by grind only
    omega
  · have : 2 * Y.d = n * (2 * X.d) := by rw [a4, b4]; grind only
    have e : n * (2 * X.d) = 2 * (n * X.d) := by grind only
    omega
theorem cj_scl (n : Int) (q : Hq) : cj (scl n q) = scl n (cj q) := by
  simp [cj, scl, Int.mul_neg]
/-- a number times its conjugate is its norm -/
theorem mul_cj {q : Hq} (h : IsN q) : mul q (cj q) = scl (nrm q) one := by
  obtain ⟨⟨a1, a2, a3, a4⟩, _⟩ := mul_core h (cj_isN h)
  have e := nrm_core h
  generalize mul q (cj q) = X at *
  simp only [raw1, raw2, raw3, raw4, cj, n4] at *
  apply Hq.ext' <;> simp only [scl, one, Int.mul_zero]
  · have : 2 * X.a = 4 * nrm q := by rw [a1, e]; grind only
    omega
  · have : 2 * X.b = 0 := by rw [a2]; grind only
    omega
  · have : 2 * X.c = 0 := by rw [a3]; grind only
    omega
  · have : 2 * X.d = 0 := by rw [a4]; grind only
    omega
theorem cj_mul_self {q : Hq} (h : IsN q) : mul (cj q) q = scl (nrm q) one := by
  have := mul_cj (cj_isN h)
  rw [cj_cj, nrm_cj] at this
  exact this
end TP
namespace TP
/-- the units, as they are written out -/
def unitsM : List Hq := [⟨-1, -1, -1, -1⟩, ⟨-1, -1, -1, 1⟩, ⟨-1, -1, 1, -1⟩, ⟨-1, -1, 1, 1⟩, ⟨-1, 1, -1, -1⟩, ⟨-1, 1, -1, 1⟩, ⟨-1, 1, 1, -1⟩, ⟨-1, 1, 1, 1⟩,
  ⟨1, -1, -1, -1⟩, ⟨1, -1, -1, 1⟩, ⟨1, -1, 1, -1⟩, ⟨1, -1, 1, 1⟩, ⟨1, 1, -1, -1⟩, ⟨1, 1, -1, 1⟩, ⟨1, 1, 1, -1⟩, ⟨1, 1, 1, 1⟩,
  ⟨-2, 0, 0, 0⟩, ⟨2, 0, 0, 0⟩, ⟨0, -2, 0, 0⟩, ⟨0, 2, 0, 0⟩, ⟨0, 0, -2, 0⟩, ⟨0, 0, 2, 0⟩, ⟨0, 0, 0, -2⟩, ⟨0, 0, 0, 2⟩]
end TP
end
/-! the text by places; data in heaps; general steps -/
namespace TPW
open PySem PySem.Spec PyProof.Rows L2 TP
open RZ (ItzT pi_zipA iZipA)
open C8 (Cal Def cal0 pe_c fnScope fnBody fnArgs fnScope_by pe_gc)

def topS (i : Nat) : Stmt := PySem.Challenge.pw_turnprimes_k76_whole_tree.main.body.getD i (.Pass ⟨0, 0, 0, 0⟩)

/-- a def under its name, its parameters bound as given -/
structure DB (K : PySem.W.Frag) (mg : Str → Option Value) (x : Str) (st : Stmt) (ps : List Str) : Prop where
  ex : ∃ f fd, Def K mg x st f fd ∧ Binds K fd ps []
section
variable {P : Program} {w : World} {K : PySem.W.Frag} {mg : Str → Option Value} {base : Heap}
theorem mkcal {x : Str} {st : Stmt} {N ps : List Str} {k : Nat} {sp : Sp} (D : DB K mg x st ps) (S : FnScope N ps (fnScope st)) (len : ∀ vs H Q E, sp vs H Q E → vs.length = ps.length)
    (hbody : ∀ (f : Addr) (cdv : Value) (A : Around) (outer : List Env) (s : Shared) (H : Hp) (vs : List V) (Q : VK) (E : XK), Room k (A.deeper (envOfC x (fnScope st) s.heap.objs.size f cdv)) → sp vs H Q E →
      ∃ t, PSs (cxOf C8.CX0 P w K mg base N x (fnScope st) f cdv A outer s H E).nox (fnBody st) t ∧ t { nx := fun _ H' => Q .non H', rt := Q } (start N vs) H) : Cal P w K mg base (k + 1) x sp [] := by
  obtain ⟨f, fd, F, b⟩ := D.ex
  exact cal0 F b .nil S len (hbody f)
end

/-! ### heaps -/
section
variable {H H' H1 : Hp} {p D : Addr} {o u : HO} {K : PySem.W.Frag}
theorem same_new (h : H p = none) : Same H (upd H p o) := fun b x e => by
  rw [upd_ne (ne_of_none e h)]
  exact e
/-- what is new since H may be written -/
theorem same_upd (s : Same H H') (n : H D = none) : Same H (upd H' D u) := fun b x e => by
  rw [upd_ne (ne_of_none e n)]
  exact s _ _ e
theorem same_put (s : Same H H') (n : H' D = none) : Same H (upd H' D u) := s.trans (same_new n)
theorem none_of_same (s : Same H H') (n : H' p = none) : H p = none := s.free n
theorem SqT.same {a : Addr} {xs : List V} (e : Same H H') (h : SqT K H a xs) : SqT K H' a xs := by
  rcases h with (h | ⟨o, h⟩) | h
  · exact .inl (.inl (e _ _ h))
  · exact .inl (.inr ⟨o, e _ _ h⟩)
  · exact .inr h
theorem SqT.put {a : Addr} {xs zs : List V} (hD : H D = some (.lst zs)) (h : SqT K H a xs) : SqT K (upd H D u) a xs := by
  rcases h with (h | ⟨o, h⟩) | h
  · refine .inl (.inl ?_)
    rw [upd_ne (ne_of h hD (by intro z; cases z))]
    exact h
  · refine .inl (.inr ⟨o, ?_⟩)
    rw [upd_ne (ne_of h hD (by intro z; cases z))]
    exact h
  · exact .inr h
/-- a fact that stays when lists are written and all else stays -/
structure Mono (P : Hp → Prop) : Prop where
  same : ∀ {H H'}, Same H H' → P H → P H'
  put : ∀ {H D zs u}, H D = some (.lst zs) → P H → P (upd H D u)
theorem Mono.pure {P : Prop} : Mono fun _ => P := ⟨fun _ h => h, fun _ h => h⟩
theorem Mono.and {P Q : Hp → Prop} (a : Mono P) (b : Mono Q) : Mono fun H => P H ∧ Q H :=
  ⟨fun s h => ⟨a.same s h.1, b.same s h.2⟩, fun d h => ⟨a.put d h.1, b.put d h.2⟩⟩
theorem Mono.ex {α : Sort _} {P : α → Hp → Prop} (a : ∀ x, Mono (P x)) : Mono fun H => ∃ x, P x H :=
  ⟨fun s ⟨x, h⟩ => ⟨x, (a x).same s h⟩, fun d ⟨x, h⟩ => ⟨x, (a x).put d h⟩⟩
theorem Mono.sqt {a : Addr} {xs : List V} : Mono fun H => SqT K H a xs := ⟨SqT.same, SqT.put⟩

/-- a tuple of whole numbers -/
def IsTI (K : PySem.W.Frag) (v : V) (ns : List Int) (H : Hp) : Prop := ∃ a, v = .ref a ∧ SqT K H a (ns.map V.int)
theorem mono_ti {v : V} {ns : List Int} : Mono (IsTI K v ns) := Mono.ex fun _ => Mono.pure.and Mono.sqt
def ql (q : Hq) : List Int := [q.a, q.b, q.c, q.d]
/-- a number of four parts -/
abbrev IsQ (K : PySem.W.Frag) (v : V) (q : Hq) (H : Hp) : Prop := IsTI K v (ql q) H
theorem IsTI.same {v : V} {ns : List Int} (s : Same H H') (h : IsTI K v ns H) : IsTI K v ns H' := mono_ti.same s h
theorem IsTI.put {v : V} {ns : List Int} {zs : List V} (hD : H D = some (.lst zs)) (h : IsTI K v ns H) : IsTI K v ns (upd H D u) := mono_ti.put hD h
theorem IsTI.new {ns : List Int} : IsTI K (.ref p) ns (upd H p (.tup (ns.map V.int))) := ⟨p, rfl, .inl (.inl upd_same)⟩
end

/-! ### comprehensions: each item by its turn, all that stood stays -/
section
variable {J : It} {n : Nat} {G : Hp → Prop} {Y : Nat → Hp → V → Hp → Prop} {g : TG} {te : TE} {vs : List Nat} {σ : L2.St} {H1 : Hp} {D : Addr} {Qd : Hp → Prop}
theorem lc_map (w : Walk J n G Y) (nD : H1 D = none) (hn : n < sizeLine) (R : Nat → V → Hp → Prop) (mR : ∀ i y, Mono (R i y)) (hG : ∀ H, Same H1 H → G H)
    (hs : ∀ i x H H', i < n → Same H1 H → Y i H x H' → g x (wipe σ vs) H' fun σ2 H2 => wipe σ2 vs = wipe σ vs ∧ ∀ Qk : VK, (∀ y H4, Same H H4 → R i y H4 → Qk y H4) → te σ2 H2 Qk)
    (hd : ∀ H ys, Same H1 H → H D = some (.lst ys) → ys.length = n → (∀ i y, ys[i]? = some y → R i y H) → Qd H)
    (gm : ∀ x σ H (A B : L2.St → Hp → Prop), (∀ σ' H', A σ' H' → B σ' H') → g x σ H A → g x σ H B) :
    ∃ W : Nat → Nat → Hp → Prop, (∃ m, W 0 m (upd H1 D (.lst []))) ∧ ∀ i m H, W i m H →
      (J.stop i H ∧ Qd H) ∨ (J.go i H ∧ ∃ Nx : Hp → Prop, (∀ H', Nx H' → ∃ m', m' < m ∧ W (i + 1) m' H') ∧ ∀ x H', J.yld i H x H' → g x (wipe σ vs) H' fun σ2 H2 => wipe σ2 vs = wipe σ vs ∧ tYes σ2 H2 fun b H3 =>
        if b = true then te σ2 H3 fun y H4 => ∃ acc, H4 D = some (.lst acc) ∧ acc.length < sizeLine ∧ Nx (upd H4 D (.lst (acc ++ [y]))) else Nx H3) := by
  refine lc_it w (fun i H => Same H1 H ∧ ∃ ys, H D = some (.lst ys) ∧ ys.length = i ∧ ∀ j y, ys[j]? = some y → R j y H) ⟨same_new nD, [], upd_same, rfl, fun j y e => by simp at e⟩ (fun i H _ h => hG H h.1) (fun i x H H' hi h hy => ?_) (fun H h => ?_)
  · obtain ⟨s, ys, eD, el, hR⟩ := h
    refine gm _ _ _ _ _ (fun σ2 H2 z => ?_) (hs i x H H' hi s hy)
    obtain ⟨ew, ht⟩ := z
    refine ⟨ew, ?_⟩
    simp only [tYes, if_true]
    refine ht _ fun y H4 s4 r => ?_
    have eD4 := s4 _ _ eD
    refine ⟨ys, eD4, by omega, same_upd (s.trans s4) nD, ys ++ [y], upd_same, by simp [el], fun j z e => ?_⟩
    by_cases hj : j < ys.length
    · rw [List.getElem?_append_left hj] at e
      exact (mR _ _).put eD4 ((mR _ _).same s4 (hR j z e))
    · have hj2 : j = ys.length := by
        have := (List.getElem?_eq_some_iff.mp e).1
        simp at this; omega
      subst hj2
      rw [List.getElem?_append_right (Nat.le_refl _)] at e
      simp at e
      subst e
      rw [el]
      exact (mR _ _).put eD4 r
  · obtain ⟨s, ys, eD, el, hR⟩ := h
    exact hd H ys s eD el hR
theorem turnT {te : TE} {σ : L2.St} {H : Hp} {A : VK} {B : Hp → Prop} (h : te σ H A) : tYes σ H (fun b H3 => if b = true then te σ H3 A else B H3) := by
  simp only [tYes, if_true]
  exact h
theorem gm_name {i : Nat} : ∀ x σ H (A B : L2.St → Hp → Prop), (∀ σ' H', A σ' H' → B σ' H') → gName i x σ H A → gName i x σ H B := fun _ _ _ _ _ h a => h _ _ a
end

section
variable {K : PySem.W.Frag} {a b D : Addr} {ns ms : List Int} {te : TE} {σ : L2.St} {H1 : Hp} {Qd : Hp → Prop} {i j : Nat}
theorem ints_of {f : Int → Int} {ys : List V} (el : ys.length = ns.length) (h : ∀ (i : Nat) (y : V), ys[i]? = some y → ∃ n, ns[i]? = some n ∧ y = V.int (f n)) : ys = (ns.map f).map V.int := by
  apply List.ext_getElem?
  intro i
  by_cases hi : i < ys.length
  · have e := List.getElem?_eq_getElem hi
    obtain ⟨n, en, ey⟩ := h i _ e
    rw [e, ey, List.getElem?_map, List.getElem?_map, en]
    rfl
  · rw [List.getElem?_eq_none (by omega), List.getElem?_eq_none (by simp; omega)]
theorem ints2_of {f : Int → Int → Int} {ys : List V} (hl : ns.length = ms.length) (el : ys.length = ns.length) (h : ∀ (i : Nat) (y : V), ys[i]? = some y → ∃ n m, ns[i]? = some n ∧ ms[i]? = some m ∧ y = V.int (f n m)) : ys = (List.zipWith f ns ms).map V.int := by
  apply List.ext_getElem?
  intro i
  by_cases hi : i < ys.length
  · have e := List.getElem?_eq_getElem hi
    obtain ⟨n, m, en, em, ey⟩ := h i _ e
    rw [e, ey, List.getElem?_map, List.getElem?_zipWith, en, em]
    rfl
  · rw [List.getElem?_eq_none (by omega), List.getElem?_eq_none (by simp; omega)]
/-- [te for x in a tuple of ints], te an int of x -/
theorem lc_intsT (hS : SqT K H1 a (ns.map V.int)) (nD : H1 D = none) (hn : ns.length < sizeLine) (f : Int → Int)
    (hs : ∀ n H (Qk : VK), n ∈ ns → Same H1 H → Qk (.int (f n)) H → te ((wipe σ [i]).set i (some (.int n))) H Qk)
    (hd : ∀ H, Same H1 H → H D = some (.lst ((ns.map f).map V.int)) → Qd H) :
    ∃ W : Nat → Nat → Hp → Prop, (∃ m, W 0 m (upd H1 D (.lst []))) ∧ ∀ j m H, W j m H →
      ((Itt K a).stop j H ∧ Qd H) ∨ ((Itt K a).go j H ∧ ∃ Nx : Hp → Prop, (∀ H', Nx H' → ∃ m', m' < m ∧ W (j + 1) m' H') ∧ ∀ x H', (Itt K a).yld j H x H' → gName i x (wipe σ [i]) H' fun σ2 H2 => wipe σ2 [i] = wipe σ [i] ∧ tYes σ2 H2 fun b H3 =>
        if b = true then te σ2 H3 fun y H4 => ∃ acc, H4 D = some (.lst acc) ∧ acc.length < sizeLine ∧ Nx (upd H4 D (.lst (acc ++ [y]))) else Nx H3) := by
  refine lc_map (walk_tup (xs := ns.map V.int)) nD (by rw [List.length_map]; exact hn) (fun j y _ => ∃ n, ns[j]? = some n ∧ y = .int (f n)) (fun _ _ => Mono.pure) (fun H s => SqT.same s hS) (fun j x H H' hj s hy => ?_) (fun H ys s e el hR => hd H s (by rw [e, ints_of (by rw [el, List.length_map]) hR])) gm_name
  obtain ⟨rfl, e⟩ := hy
  rw [List.getElem?_map] at e
  obtain ⟨n, en, rfl⟩ := Option.map_eq_some_iff.mp e
  refine ⟨?_, fun Qk k => hs n _ Qk (List.mem_of_getElem? en) s (k _ _ (Same.refl _) ⟨n, en, rfl⟩)⟩
  simp only [wipe]
  rw [List.set_set, List.set_set]
/-- .. of a list of ints -/
theorem lc_intsL (hS : SqL K H1 a (ns.map V.int)) (nD : H1 D = none) (hn : ns.length < sizeLine) (f : Int → Int)
    (hs : ∀ n H (Qk : VK), n ∈ ns → Same H1 H → Qk (.int (f n)) H → te ((wipe σ [i]).set i (some (.int n))) H Qk)
    (hd : ∀ H, Same H1 H → H D = some (.lst ((ns.map f).map V.int)) → Qd H) :
    ∃ W : Nat → Nat → Hp → Prop, (∃ m, W 0 m (upd H1 D (.lst []))) ∧ ∀ j m H, W j m H →
      ((Itl K a).stop j H ∧ Qd H) ∨ ((Itl K a).go j H ∧ ∃ Nx : Hp → Prop, (∀ H', Nx H' → ∃ m', m' < m ∧ W (j + 1) m' H') ∧ ∀ x H', (Itl K a).yld j H x H' → gName i x (wipe σ [i]) H' fun σ2 H2 => wipe σ2 [i] = wipe σ [i] ∧ tYes σ2 H2 fun b H3 =>
        if b = true then te σ2 H3 fun y H4 => ∃ acc, H4 D = some (.lst acc) ∧ acc.length < sizeLine ∧ Nx (upd H4 D (.lst (acc ++ [y]))) else Nx H3) := by
  refine lc_map (walk_list (xs := ns.map V.int)) nD (by rw [List.length_map]; exact hn) (fun j y _ => ∃ n, ns[j]? = some n ∧ y = .int (f n)) (fun _ _ => Mono.pure) (fun H s => s.seq hS) (fun j x H H' hj s hy => ?_) (fun H ys s e el hR => hd H s (by rw [e, ints_of (by rw [el, List.length_map]) hR])) gm_name
  obtain ⟨rfl, e⟩ := hy
  rw [List.getElem?_map] at e
  obtain ⟨n, en, rfl⟩ := Option.map_eq_some_iff.mp e
  refine ⟨?_, fun Qk k => hs n _ Qk (List.mem_of_getElem? en) s (k _ _ (Same.refl _) ⟨n, en, rfl⟩)⟩
  simp only [wipe]
  rw [List.set_set, List.set_set]
/-- zip of two tuples -/
theorem walk_zipT {xs ys : List V} (hl : xs.length = ys.length) : Walk (ItzT K a b) xs.length (fun H => SqT K H a xs ∧ SqT K H b ys) (YPair (fun i => xs[i]?) (fun i => ys[i]?)) := by
  refine ⟨fun i _ hi q => ?_, fun _ q => ⟨xs, ys, q.1, q.2, .inl (Nat.le_refl _)⟩, fun i H v H' _ q y => ?_⟩
  · exact ⟨xs, ys, xs[i], ys[i]'(by omega), q.1, q.2, by simp [hi], by simp [show i < ys.length by omega]⟩
  · obtain ⟨T, x, z, h1, h2, h3, h4, h5⟩ := y
    exact ⟨T, x, z, h1, h2, h3, h4 xs q.1, h5 ys q.2⟩
theorem gm_tup2 : ∀ x σ H (A B : L2.St → Hp → Prop), (∀ σ' H', A σ' H' → B σ' H') → gTup K 2 (gCons (gName i) (gCons (gName j) gNil)) x σ H A → gTup K 2 (gCons (gName i) (gCons (gName j) gNil)) x σ H B := by
  intro x σ H A B h ⟨a, xs, e1, h1, h2, v, r, e2, v2, r2, e3, e4, e5⟩
  exact ⟨a, xs, e1, h1, h2, v, r, e2, v2, r2, e3, e4, h _ _ e5⟩
/-- [te for x, y in zip(two tuples of ints)] -/
theorem lc_zipT (hA : SqT K H1 a (ns.map V.int)) (hB : SqT K H1 b (ms.map V.int)) (hl : ns.length = ms.length) (hij : i ≠ j) (nD : H1 D = none) (hn : ns.length < sizeLine) (f : Int → Int → Int)
    (hs : ∀ n m H (Qk : VK), (n, m) ∈ ns.zip ms → Same H1 H → Qk (.int (f n m)) H → te (((wipe σ [i, j]).set i (some (.int n))).set j (some (.int m))) H Qk)
    (hd : ∀ H, Same H1 H → H D = some (.lst ((List.zipWith f ns ms).map V.int)) → Qd H) :
    ∃ W : Nat → Nat → Hp → Prop, (∃ m, W 0 m (upd H1 D (.lst []))) ∧ ∀ k m H, W k m H →
      ((ItzT K a b).stop k H ∧ Qd H) ∨ ((ItzT K a b).go k H ∧ ∃ Nx : Hp → Prop, (∀ H', Nx H' → ∃ m', m' < m ∧ W (k + 1) m' H') ∧ ∀ x H', (ItzT K a b).yld k H x H' → gTup K 2 (gCons (gName i) (gCons (gName j) gNil)) x (wipe σ [i, j]) H' fun σ2 H2 => wipe σ2 [i, j] = wipe σ [i, j] ∧ tYes σ2 H2 fun b H3 =>
        if b = true then te σ2 H3 fun y H4 => ∃ acc, H4 D = some (.lst acc) ∧ acc.length < sizeLine ∧ Nx (upd H4 D (.lst (acc ++ [y]))) else Nx H3) := by
  refine lc_map (walk_zipT (xs := ns.map V.int) (ys := ms.map V.int) (by simp [hl])) nD (by rw [List.length_map]; exact hn) (fun k y _ => ∃ n m, ns[k]? = some n ∧ ms[k]? = some m ∧ y = .int (f n m)) (fun _ _ => Mono.pure) (fun H s => ⟨SqT.same s hA, SqT.same s hB⟩) (fun k x H H' hk s hy => ?_)
    (fun H ys s e el hR => hd H s (by rw [e, ints2_of hl (by rw [el, List.length_map]) hR])) gm_tup2
  obtain ⟨T, x1, x2, rfl, nT, rfl, e1, e2⟩ := hy
  have e1 : (ns.map V.int)[k]? = some x1 := e1
  have e2 : (ms.map V.int)[k]? = some x2 := e2
  rw [List.getElem?_map] at e1 e2
  obtain ⟨n, en, rfl⟩ := Option.map_eq_some_iff.mp e1
  obtain ⟨m, em, rfl⟩ := Option.map_eq_some_iff.mp e2
  refine ⟨T, [.int n, .int m], rfl, .inl (.inl upd_same), rfl, _, _, rfl, _, _, rfl, rfl, ?_, fun Qk k => ?_⟩
  · simp only [wipe]
    apply List.ext_getElem?
    intro z
    by_cases h1 : z = i
    · subst h1; simp [List.getElem?_set, hij, Ne.symm hij]
    · by_cases h2 : z = j
      · subst h2; simp [List.getElem?_set, hij, Ne.symm hij]
      · simp [List.getElem?_set, h1, h2, Ne.symm h1, Ne.symm h2]
  · exact hs n m _ Qk (List.mem_of_getElem? (List.getElem?_zip_eq_some.mpr ⟨en, em⟩)) (same_put s nT) (k _ _ (same_new nT) ⟨n, m, en, em, rfl⟩)
end

/-! ### tuples of ints as data -/
def tiD (ns : List Int) : PyData := .tuple (ns.map PyData.int)
section
variable {K : PySem.W.Frag} {H : Hp}
theorem dp_ints : ∀ ns : List Int, DpAll K H (ns.map V.int) (ns.map PyData.int)
  | [] => .nil
  | n :: r => .cons (.int n) (dp_ints r)
theorem dp_ti {v : V} {ns : List Int} (h : IsTI K v ns H) : Dp K H v (tiD ns) := by
  obtain ⟨a, rfl, h⟩ := h
  exact .tup h (dp_ints ns)
theorem tiD_lay : ∀ ns : List Int, PyData.canLayAll0 (ns.map PyData.int) = true
  | [] => by simp [PyData.canLayAll0]
  | n :: r => by simp [PyData.canLayAll0, PyData.canLay0, tiD_lay r]
theorem tiD_depth : ∀ ns : List Int, PyData.depthAll (ns.map PyData.int) = 0
  | [] => by simp [PyData.depthAll]
  | n :: r => by simp [PyData.depthAll, PyData.depth, tiD_depth r]
theorem tiD_shaped (ns : List Int) : SeqAt.shaped (tiD ns) = true := by
  unfold SeqAt.shaped tiD
  simp [PyData.canLay0, PyData.depth, tiD_lay, tiD_depth]
theorem tiD_eqv : ∀ ns ms : List Int, PyData.eqvAll (ns.map PyData.int) (ms.map PyData.int) = decide (ns = ms)
  | [], [] => by simp [PyData.eqvAll]
  | [], _ :: _ => by simp [PyData.eqvAll]
  | _ :: _, [] => by simp [PyData.eqvAll]
  | n :: r, m :: q => by
    simp only [List.map_cons, PyData.eqvAll, PyData.eqv, tiD_eqv r q, List.cons.injEq, Bool.decide_and]
    rfl
theorem tiD_eq (ns ms : List Int) : PyData.eqv (tiD ns) (tiD ms) = decide (ns = ms) := by
  unfold tiD
  rw [PyData.eqv]
  exact tiD_eqv ns ms
end
/-- a list of tuples of ints -/
def IsLT (K : PySem.W.Frag) (v : V) (nss : List (List Int)) (H : Hp) : Prop := ∃ a vs, v = .ref a ∧ SqL K H a vs ∧ Paired (fun u ns => IsTI K u ns H) vs nss
theorem IsLT.same {K : PySem.W.Frag} {H H' : Hp} {v : V} {nss : List (List Int)} (s : Same H H') (h : IsLT K v nss H) : IsLT K v nss H' := by
  obtain ⟨a, vs, e, h1, h2⟩ := h
  exact ⟨a, vs, e, s.seq h1, Paired.mapP h2 fun _ _ z => z.same s⟩
theorem dp_lt {K : PySem.W.Frag} {H : Hp} : ∀ {vs : List V} {nss : List (List Int)}, Paired (fun u ns => IsTI K u ns H) vs nss → DpAll K H vs (nss.map tiD)
  | _, _, .nil => .nil
  | _, _, .cons h t => .cons (dp_ti h) (dp_lt t)
theorem ltD_lay : ∀ nss : List (List Int), PyData.canLayAll0 (nss.map tiD) = true
  | [] => by simp [PyData.canLayAll0]
  | n :: r => by
    have h := tiD_lay n
    simp [PyData.canLayAll0, tiD, PyData.canLay0, h]
    exact ltD_lay r
theorem ltD_depth : ∀ nss : List (List Int), PyData.depthAll (nss.map tiD) ≤ 1
  | [] => by simp [PyData.depthAll]
  | n :: r => by
    have h := tiD_depth n
    have h2 := ltD_depth r
    simp only [List.map_cons, PyData.depthAll]
    have h3 : (tiD n).depth ≤ 1 := by unfold tiD; rw [PyData.depth, h]; omega
    omega
theorem ltD_shaped (nss : List (List Int)) : SeqAt.shaped (.list (nss.map tiD)) = true := by
  unfold SeqAt.shaped
  have h := ltD_depth nss
  simp [PyData.canLay0, PyData.depth, ltD_lay]
  omega
section
variable {X : Cx}
def rEqT (K : PySem.W.Frag) : R2 := fun x y H Q => ∃ ns ms, IsTI K x ns H ∧ IsTI K y ms H ∧ Q (.bl (decide (ns = ms))) H
def rNeT (K : PySem.W.Frag) : R2 := fun x y H Q => ∃ ns ms, IsTI K x ns H ∧ IsTI K y ms H ∧ Q (.bl (!decide (ns = ms))) H
theorem op_eqT (hu : X.A.units + 64 < cLine) : OpR X (compareOp .Eq) (rEqT X.K) := fun pins s σ H x y v u Q I rx ry h => by
  obtain ⟨ns, ms, h1, h2, q⟩ := h
  exact op_eqD hu pins s σ H x y v u Q I rx ry ⟨_, _, dp_ti h1, dp_ti h2, tiD_shaped _, tiD_shaped _, by rw [tiD_eq]; exact q⟩
theorem op_neT (hu : X.A.units + 64 < cLine) : OpR X (compareOp .NotEq) (rNeT X.K) := fun pins s σ H x y v u Q I rx ry h => by
  obtain ⟨ns, ms, h1, h2, q⟩ := h
  exact op_neD hu pins s σ H x y v u Q I rx ry ⟨_, _, dp_ti h1, dp_ti h2, tiD_shaped _, tiD_shaped _, by rw [tiD_eq]; exact q⟩
def rInT (K : PySem.W.Frag) : R2 := fun x y H Q => ∃ ns nss, IsTI K x ns H ∧ IsLT K y nss H ∧ Q (.bl (decide (ns ∈ nss))) H
def rNotInT (K : PySem.W.Frag) : R2 := fun x y H Q => ∃ ns nss, IsTI K x ns H ∧ IsLT K y nss H ∧ Q (.bl (!decide (ns ∈ nss))) H
theorem any_tiD (ns : List Int) : ∀ nss : List (List Int), ((nss.map tiD).any fun z => PyData.eqv z (tiD ns)) = decide (ns ∈ nss)
  | [] => by simp
  | m :: r => by
    rw [List.map_cons, List.any_cons, any_tiD ns r, tiD_eq]
    by_cases h : m = ns
    · subst h; simp
    · have : ¬ ns = m := fun e => h e.symm
      simp [h, this]
theorem op_inT (hu : X.A.units + 65 < cLine) : OpR X (compareOp .In) (rInT X.K) := fun pins s σ H x y v u Q I rx ry h => by
  obtain ⟨ns, nss, h1, ⟨a, vs, rfl, h2, h3⟩, q⟩ := h
  exact op_inD hu pins s σ H x _ v u Q I rx ry ⟨tiD ns, nss.map tiD, dp_ti h1, .lst h2 (dp_lt h3), tiD_shaped _, ltD_shaped _, by rw [any_tiD]; exact q⟩
theorem op_notInT (hu : X.A.units + 65 < cLine) : OpR X (compareOp .NotIn) (rNotInT X.K) := fun pins s σ H x y v u Q I rx ry h => by
  obtain ⟨ns, nss, h1, ⟨a, vs, rfl, h2, h3⟩, q⟩ := h
  exact op_notInD hu pins s σ H x _ v u Q I rx ry ⟨tiD ns, nss.map tiD, dp_ti h1, .lst h2 (dp_lt h3), tiD_shaped _, ltD_shaped _, by rw [any_tiD]; exact q⟩
end
/-- a tracked tuple of whole numbers -/
def IsTT (v : V) (ns : List Int) (H : Hp) : Prop := ∃ a, v = .ref a ∧ H a = some (.tup (ns.map V.int))
section
variable {H H' : Hp} {p D : Addr} {u : HO} {K : PySem.W.Frag} {v : V} {ns : List Int}
theorem IsTT.ti (h : IsTT v ns H) : IsTI K v ns H := by
  obtain ⟨a, e, h⟩ := h
  exact ⟨a, e, SqT.of h⟩
theorem IsTT.same (s : Same H H') (h : IsTT v ns H) : IsTT v ns H' := by
  obtain ⟨a, e, h⟩ := h
  exact ⟨a, e, s _ _ h⟩
theorem IsTT.put {zs : List V} (hD : H D = some (.lst zs)) (h : IsTT v ns H) : IsTT v ns (upd H D u) := by
  obtain ⟨a, e, h⟩ := h
  refine ⟨a, e, ?_⟩
  rw [upd_ne (fun q => by rw [q, hD] at h; cases h)]
  exact h
theorem mono_tt : Mono (IsTT v ns) := ⟨IsTT.same, IsTT.put⟩
theorem IsTT.new : IsTT (.ref p) ns (upd H p (.tup (ns.map V.int))) := ⟨p, rfl, upd_same⟩
end
/-- a list of tracked tuples of ints -/
def IsLTT (K : PySem.W.Frag) (v : V) (nss : List (List Int)) (H : Hp) : Prop := ∃ a vs, v = .ref a ∧ SqL K H a vs ∧ Paired (fun u ns => IsTT u ns H) vs nss
theorem IsLTT.lt {K : PySem.W.Frag} {H : Hp} {v : V} {nss : List (List Int)} (h : IsLTT K v nss H) : IsLT K v nss H := by
  obtain ⟨a, vs, e, h1, h2⟩ := h
  exact ⟨a, vs, e, h1, Paired.mapP h2 fun _ _ z => z.ti⟩
theorem IsLTT.same {K : PySem.W.Frag} {H H' : Hp} {v : V} {nss : List (List Int)} (s : Same H H') (h : IsLTT K v nss H) : IsLTT K v nss H' := by
  obtain ⟨a, vs, e, h1, h2⟩ := h
  exact ⟨a, vs, e, s.seq h1, Paired.mapP h2 fun _ _ z => z.same s⟩
theorem rel_pairs {α : Type} {R : V → α → Prop} : ∀ {vs : List V} {qs : List α}, Paired R vs qs → ∃ bs : List (V × α), bs.map (·.1) = vs ∧ bs.map (·.2) = qs ∧ ∀ b ∈ bs, R b.1 b.2
  | _, _, .nil => ⟨[], rfl, rfl, fun _ h => by cases h⟩
  | v :: _, q :: _, .cons r t => by
    obtain ⟨bs, h1, h2, h3⟩ := rel_pairs t
    refine ⟨(v, q) :: bs, by simp [h1], by simp [h2], fun b hb => ?_⟩
    rcases List.mem_cons.mp hb with rfl | hb
    · exact r
    · exact h3 b hb
theorem pairs_rel {α : Type} {R : V → α → Prop} : ∀ {bs : List (V × α)}, (∀ b ∈ bs, R b.1 b.2) → Paired R (bs.map (·.1)) (bs.map (·.2))
  | [], _ => .nil
  | b :: bs, h => .cons (h b (List.mem_cons_self ..)) (pairs_rel fun c hc => h c (List.mem_cons_of_mem _ hc))
theorem paired_map {α β : Type} {R : V → β → Prop} {f : α → β} : ∀ {vs : List V} {xs : List α}, Paired (fun v x => R v (f x)) vs xs → Paired R vs (xs.map f)
  | _, _, .nil => .nil
  | _, _, .cons h t => .cons h (paired_map t)
end TPW
/-! the defs of the text, their scopes; what the top leaves (printed by gentop.py) -/
namespace TPW
open PySem PySem.Spec PyProof.Rows L2 TP
open C8 (Cal Def cal0 pe_c fnScope fnBody fnArgs fnScope_by pe_gc)

abbrev s_is_number : Stmt := topS 10
abbrev N_is_number : List Str := ["number", "part"]
theorem sc_is_number : FnScope N_is_number ["number"] (fnScope s_is_number) := fnScope_by (by decide +kernel)

abbrev s_check_number : Stmt := topS 11
abbrev N_check_number : List Str := ["number"]
theorem sc_check_number : FnScope N_check_number ["number"] (fnScope s_check_number) := fnScope_by (by decide +kernel)

abbrev s_check_not_zero : Stmt := topS 12
abbrev N_check_not_zero : List Str := ["number"]
theorem sc_check_not_zero : FnScope N_check_not_zero ["number"] (fnScope s_check_not_zero) := fnScope_by (by decide +kernel)

abbrev s_conjugate : Stmt := topS 13
abbrev N_conjugate : List Str := ["number", "a", "b", "c", "d"]
theorem sc_conjugate : FnScope N_conjugate ["number"] (fnScope s_conjugate) := fnScope_by (by decide +kernel)

abbrev s_norm : Stmt := topS 14
abbrev N_norm : List Str := ["number", "part"]
theorem sc_norm : FnScope N_norm ["number"] (fnScope s_norm) := fnScope_by (by decide +kernel)

abbrev s_less : Stmt := topS 15
abbrev N_less : List Str := ["one", "other", "part", "far"]
theorem sc_less : FnScope N_less ["one", "other"] (fnScope s_less) := fnScope_by (by decide +kernel)

abbrev s_product : Stmt := topS 16
abbrev N_product : List Str := ["one", "other", "a", "b", "c", "d", "e", "f", "g", "h", "parts", "part"]
theorem sc_product : FnScope N_product ["one", "other"] (fnScope s_product) := fnScope_by (by decide +kernel)

abbrev s_product_of : Stmt := topS 17
abbrev N_product_of : List Str := ["numbers", "found", "number"]
theorem sc_product_of : FnScope N_product_of ["numbers"] (fnScope s_product_of) := fnScope_by (by decide +kernel)

abbrev s_units : Stmt := topS 18
abbrev N_units : List Str := ["found", "place", "part", "a", "b", "c", "d", "at"]
theorem sc_units : FnScope N_units [] (fnScope s_units) := fnScope_by (by decide +kernel)

abbrev s_is_unit : Stmt := topS 19
abbrev N_is_unit : List Str := ["number"]
theorem sc_is_unit : FnScope N_is_unit ["number"] (fnScope s_is_unit) := fnScope_by (by decide +kernel)

abbrev s_associates : Stmt := topS 20
abbrev N_associates : List Str := ["number", "unit"]
theorem sc_associates : FnScope N_associates ["number"] (fnScope s_associates) := fnScope_by (by decide +kernel)

abbrev s_canonical : Stmt := topS 21
abbrev N_canonical : List Str := ["number"]
theorem sc_canonical : FnScope N_canonical ["number"] (fnScope s_canonical) := fnScope_by (by decide +kernel)

abbrev s_content : Stmt := topS 22
abbrev N_content : List Str := ["number", "common", "part"]
theorem sc_content : FnScope N_content ["number"] (fnScope s_content) := fnScope_by (by decide +kernel)

abbrev s_primitive_part : Stmt := topS 23
abbrev N_primitive_part : List Str := ["number", "divisor", "part"]
theorem sc_primitive_part : FnScope N_primitive_part ["number"] (fnScope s_primitive_part) := fnScope_by (by decide +kernel)

abbrev s_distance_of : Stmt := topS 26
abbrev N_distance_of : List Str := ["parts", "size", "number", "near", "part"]
theorem sc_distance_of : FnScope N_distance_of ["parts", "size", "number"] (fnScope s_distance_of) := fnScope_by (by decide +kernel)

abbrev s_nearest : Stmt := topS 27
abbrev N_nearest : List Str := ["parts", "size", "whole", "halves", "far", "further", "part"]
theorem sc_nearest : FnScope N_nearest ["parts", "size"] (fnScope s_nearest) := fnScope_by (by decide +kernel)

abbrev s_check_pair : Stmt := topS 28
abbrev N_check_pair : List Str := ["number", "divisor"]
theorem sc_check_pair : FnScope N_check_pair ["number", "divisor"] (fnScope s_check_pair) := fnScope_by (by decide +kernel)

abbrev s_divided_left : Stmt := topS 29
abbrev N_divided_left : List Str := ["number", "divisor", "quotient"]
theorem sc_divided_left : FnScope N_divided_left ["number", "divisor"] (fnScope s_divided_left) := fnScope_by (by decide +kernel)

abbrev s_left_quotient : Stmt := topS 30
abbrev N_left_quotient : List Str := ["number", "divisor", "quotient", "rest"]
theorem sc_left_quotient : FnScope N_left_quotient ["number", "divisor"] (fnScope s_left_quotient) := fnScope_by (by decide +kernel)

abbrev s_steps_of : Stmt := topS 32
abbrev N_steps_of : List Str := ["one", "other", "now", "following", "quotient", "rest", "first", "second"]
theorem sc_steps_of : FnScope N_steps_of ["one", "other"] (fnScope s_steps_of) := fnScope_by (by decide +kernel)

abbrev s_check_some : Stmt := topS 33
abbrev N_check_some : List Str := ["numbers", "number"]
theorem sc_check_some : FnScope N_check_some ["numbers"] (fnScope s_check_some) := fnScope_by (by decide +kernel)

abbrev s_left_common : Stmt := topS 34
abbrev N_left_common : List Str := ["one", "other"]
theorem sc_left_common : FnScope N_left_common ["one", "other"] (fnScope s_left_common) := fnScope_by (by decide +kernel)

abbrev s_check_prime : Stmt := topS 37
abbrev N_check_prime : List Str := ["prime", "divisor"]
theorem sc_check_prime : FnScope N_check_prime ["prime"] (fnScope s_check_prime) := fnScope_by (by decide +kernel)

abbrev s_numbers_of : Stmt := topS 38
abbrev N_numbers_of : List Str := ["size", "found", "most", "a", "b", "rest", "c", "d"]
theorem sc_numbers_of : FnScope N_numbers_of ["size"] (fnScope s_numbers_of) := fnScope_by (by decide +kernel)

abbrev s_pairs_of : Stmt := topS 39
abbrev N_pairs_of : List Str := ["size", "parity", "found", "most", "c", "left", "d"]
theorem sc_pairs_of : FnScope N_pairs_of ["size", "parity"] (fnScope s_pairs_of) := fnScope_by (by decide +kernel)

abbrev s_letters : Stmt := topS 40
abbrev N_letters : List Str := ["prime", "found", "known", "number", "other"]
theorem sc_letters : FnScope N_letters ["prime"] (fnScope s_letters) := fnScope_by (by decide +kernel)

abbrev s_check_word : Stmt := topS 41
abbrev N_check_word : List Str := ["prime", "word", "letter"]
theorem sc_check_word : FnScope N_check_word ["prime", "word"] (fnScope s_check_word) := fnScope_by (by decide +kernel)

abbrev s_product_at : Stmt := topS 42
abbrev N_product_at : List Str := ["prime", "word", "known", "letter"]
theorem sc_product_at : FnScope N_product_at ["prime", "word"] (fnScope s_product_at) := fnScope_by (by decide +kernel)

abbrev s_power_of : Stmt := topS 43
abbrev N_power_of : List Str := ["prime", "size", "count"]
theorem sc_power_of : FnScope N_power_of ["prime", "size"] (fnScope s_power_of) := fnScope_by (by decide +kernel)

abbrev s_word_of : Stmt := topS 44
abbrev N_word_of : List Str := ["prime", "number", "known", "left", "word", "letter"]
theorem sc_word_of : FnScope N_word_of ["prime", "number"] (fnScope s_word_of) := fnScope_by (by decide +kernel)

abbrev s_reduced : Stmt := topS 45
abbrev N_reduced : List Str := ["prime", "word"]
theorem sc_reduced : FnScope N_reduced ["prime", "word"] (fnScope s_reduced) := fnScope_by (by decide +kernel)

abbrev s_meeting : Stmt := topS 46
abbrev N_meeting : List Str := ["prime", "one", "other", "first", "second", "size"]
theorem sc_meeting : FnScope N_meeting ["prime", "one", "other"] (fnScope s_meeting) := fnScope_by (by decide +kernel)

abbrev s_distance : Stmt := topS 47
abbrev N_distance : List Str := ["prime", "one", "other", "shared"]
theorem sc_distance : FnScope N_distance ["prime", "one", "other"] (fnScope s_distance) := fnScope_by (by decide +kernel)

abbrev s_middle : Stmt := topS 48
abbrev N_middle : List Str := ["prime", "one", "other", "third", "words", "word"]
theorem sc_middle : FnScope N_middle ["prime", "one", "other", "third"] (fnScope s_middle) := fnScope_by (by decide +kernel)

abbrev s_way : Stmt := topS 49
abbrev N_way : List Str := ["prime", "one", "other", "shared", "first", "second", "down", "size"]
theorem sc_way : FnScope N_way ["prime", "one", "other"] (fnScope s_way) := fnScope_by (by decide +kernel)

abbrev s_law_row : Stmt := topS 51
abbrev N_law_row : List Str := ["_law_cell", "_law_many", "_law_row_here", "_law_rest", "_law_mixed", "_law_k"]
theorem sc_law_row : FnScope N_law_row ["_law_cell", "_law_many"] (fnScope s_law_row) := fnScope_by (by decide +kernel)

abbrev s_law_numbers : Stmt := topS 52
abbrev N_law_numbers : List Str := ["_law_script", "_law_many", "_law_cells", "_law_each", "_law_numbers_here", "_law_cell", "_law_number"]
theorem sc_law_numbers : FnScope N_law_numbers ["_law_script", "_law_many"] (fnScope s_law_numbers) := fnScope_by (by decide +kernel)

abbrev s_law_product : Stmt := topS 53
abbrev N_law_product : List Str := ["_law_one", "_law_other", "_law_a", "_law_b", "_law_c", "_law_d", "_law_e", "_law_f", "_law_g", "_law_h", "_law_first", "_law_second", "_law_third", "_law_fourth"]
theorem sc_law_product : FnScope N_law_product ["_law_one", "_law_other"] (fnScope s_law_product) := fnScope_by (by decide +kernel)

abbrev s_law_turned : Stmt := topS 54
abbrev N_law_turned : List Str := ["_law_number"]
theorem sc_law_turned : FnScope N_law_turned ["_law_number"] (fnScope s_law_turned) := fnScope_by (by decide +kernel)

abbrev s_law_norm : Stmt := topS 55
abbrev N_law_norm : List Str := ["_law_number", "_law_part"]
theorem sc_law_norm : FnScope N_law_norm ["_law_number"] (fnScope s_law_norm) := fnScope_by (by decide +kernel)

abbrev s_law_divided : Stmt := topS 59
abbrev N_law_divided : List Str := ["_law_number", "_law_size", "_law_parts", "_law_part"]
theorem sc_law_divided : FnScope N_law_divided ["_law_number", "_law_size"] (fnScope s_law_divided) := fnScope_by (by decide +kernel)

abbrev s_law_word : Stmt := topS 61
abbrev N_law_word : List Str := ["_law_numbers_here", "_law_at", "_law_many", "_law_prime_here", "_law_k"]
theorem sc_law_word : FnScope N_law_word ["_law_numbers_here", "_law_at", "_law_many", "_law_prime_here"] (fnScope s_law_word) := fnScope_by (by decide +kernel)

abbrev s_law_prime : Stmt := topS 62
abbrev N_law_prime : List Str := ["_law_number"]
theorem sc_law_prime : FnScope N_law_prime ["_law_number"] (fnScope s_law_prime) := fnScope_by (by decide +kernel)

abbrev s_law_power : Stmt := topS 63
abbrev N_law_power : List Str := ["_law_prime_here", "_law_size", "_law_times", "_law_turn"]
theorem sc_law_power : FnScope N_law_power ["_law_prime_here", "_law_size"] (fnScope s_law_power) := fnScope_by (by decide +kernel)

abbrev s_law : Stmt := topS 64
abbrev N_law : List Str := ["_law_script", "_law_numbers_here", "_law_prime_here", "_law_k", "_law_words", "_law_number", "_law_turn", "_law_less", "_law_first", "_law_rows", "_law_second", "_law_third", "_law_there", "_law_word_here"]
theorem sc_law : FnScope N_law ["_law_script"] (fnScope s_law) := fnScope_by (by decide +kernel)

structure TopOk (K : PySem.W.Frag) (mg : Str → Option Value) : Prop where
  d_is_number : DB K mg "is_number" s_is_number ["number"]
  d_check_number : DB K mg "check_number" s_check_number ["number"]
  d_check_not_zero : DB K mg "check_not_zero" s_check_not_zero ["number"]
  d_conjugate : DB K mg "conjugate" s_conjugate ["number"]
  d_norm : DB K mg "norm" s_norm ["number"]
  d_less : DB K mg "less" s_less ["one", "other"]
  d_product : DB K mg "product" s_product ["one", "other"]
  d_product_of : DB K mg "product_of" s_product_of ["numbers"]
  d_units : DB K mg "units" s_units []
  d_is_unit : DB K mg "is_unit" s_is_unit ["number"]
  d_associates : DB K mg "associates" s_associates ["number"]
  d_canonical : DB K mg "canonical" s_canonical ["number"]
  d_content : DB K mg "content" s_content ["number"]
  d_primitive_part : DB K mg "primitive_part" s_primitive_part ["number"]
  d_distance_of : DB K mg "distance_of" s_distance_of ["parts", "size", "number"]
  d_nearest : DB K mg "nearest" s_nearest ["parts", "size"]
  d_check_pair : DB K mg "check_pair" s_check_pair ["number", "divisor"]
  d_divided_left : DB K mg "divided_left" s_divided_left ["number", "divisor"]
  d_left_quotient : DB K mg "left_quotient" s_left_quotient ["number", "divisor"]
  d_steps_of : DB K mg "steps_of" s_steps_of ["one", "other"]
  d_check_some : DB K mg "check_some" s_check_some ["numbers"]
  d_left_common : DB K mg "left_common" s_left_common ["one", "other"]
  d_check_prime : DB K mg "check_prime" s_check_prime ["prime"]
  d_numbers_of : DB K mg "numbers_of" s_numbers_of ["size"]
  d_pairs_of : DB K mg "pairs_of" s_pairs_of ["size", "parity"]
  d_letters : DB K mg "letters" s_letters ["prime"]
  d_check_word : DB K mg "check_word" s_check_word ["prime", "word"]
  d_product_at : DB K mg "product_at" s_product_at ["prime", "word"]
  d_power_of : DB K mg "power_of" s_power_of ["prime", "size"]
  d_word_of : DB K mg "word_of" s_word_of ["prime", "number"]
  d_reduced : DB K mg "reduced" s_reduced ["prime", "word"]
  d_meeting : DB K mg "meeting" s_meeting ["prime", "one", "other"]
  d_distance : DB K mg "distance" s_distance ["prime", "one", "other"]
  d_middle : DB K mg "middle" s_middle ["prime", "one", "other", "third"]
  d_way : DB K mg "way" s_way ["prime", "one", "other"]
  d_law_row : DB K mg "_law_row" s_law_row ["_law_cell", "_law_many"]
  d_law_numbers : DB K mg "_law_numbers" s_law_numbers ["_law_script", "_law_many"]
  d_law_product : DB K mg "_law_product" s_law_product ["_law_one", "_law_other"]
  d_law_turned : DB K mg "_law_turned" s_law_turned ["_law_number"]
  d_law_norm : DB K mg "_law_norm" s_law_norm ["_law_number"]
  d_law_divided : DB K mg "_law_divided" s_law_divided ["_law_number", "_law_size"]
  d_law_word : DB K mg "_law_word" s_law_word ["_law_numbers_here", "_law_at", "_law_many", "_law_prime_here"]
  d_law_prime : DB K mg "_law_prime" s_law_prime ["_law_number"]
  d_law_power : DB K mg "_law_power" s_law_power ["_law_prime_here", "_law_size"]
  d_law : DB K mg "law" s_law ["_law_script"]
  m_len : mg "len" = none
  m_range : mg "range" = none
  m_zip : mg "zip" = none
  m_sum : mg "sum" = none
  m_tuple : mg "tuple" = none
  m_abs : mg "abs" = none
  m_int : mg "int" = none
  m_all : mg "all" = none
  m_any : mg "any" = none
  m_max : mg "max" = none
  m_sorted : mg "sorted" = none
  m_isinstance : mg "isinstance" = none
  m_bool : mg "bool" = none
  g_ZERO_numbers : ∃ a, mg "ZERO_numbers" = some (.ref a) ∧ ∀ H, SqT K H a ([.int 0, .int 0, .int 0, .int 0] : List V)
  g_ZERO_dividing : ∃ a, mg "ZERO_dividing" = some (.ref a) ∧ ∀ H, SqT K H a ([.int 0, .int 0, .int 0, .int 0] : List V)
  g_ONE : ∃ a, mg "ONE" = some (.ref a) ∧ ∀ H, SqT K H a ([.int 2, .int 0, .int 0, .int 0] : List V)
  g_PARTS : ∃ t, mg "PARTS" = some (.int 4 t)
  g_MOST_PRIME : ∃ t, mg "MOST_PRIME" = some (.int 199 t)
  g_gcd : mg "gcd" = some (.builtin "math.gcd")
  g_isqrt : mg "isqrt" = some (.builtin "math.isqrt")
end TPW
namespace TPW
open PySem PySem.Spec PyProof.Rows L2 TP
open RZ (ItzT pi_zipA iZipA)
open C8 (Cal Def cal0 pe_c fnScope fnBody fnArgs fnScope_by pe_gc)

/-- the dict {part % 2: True for part in l}, grown -/
def parD (kvs : List (Key × V)) : List Int → List (Key × V)
  | [] => kvs
  | n :: r => parD (putK kvs (.inl (n % 2)) (.bl true)) r
theorem parD_snoc : ∀ (l : List Int) (n : Int) (kvs : List (Key × V)), parD kvs (l ++ [n]) = putK (parD kvs l) (.inl (n % 2)) (.bl true)
  | [], n, kvs => rfl
  | m :: l, n, kvs => parD_snoc l n _
theorem parD_len : ∀ (l : List Int) (kvs : List (Key × V)), (parD kvs l).length ≤ kvs.length + l.length
  | [], kvs => Nat.le_refl _
  | n :: l, kvs => by
    have h := parD_len l (putK kvs (.inl (n % 2)) (.bl true))
    have h2 : (putK kvs (.inl (n % 2)) (.bl true)).length ≤ kvs.length + 1 := by
      unfold putK; split <;> simp
    show (parD _ l).length ≤ _
    rw [List.length_cons]; omega
theorem parD4 {x y z w : Int} (hx : x = 0 ∨ x = 1) (hy : y = 0 ∨ y = 1) (hz : z = 0 ∨ z = 1) (hw : w = 0 ∨ w = 1) :
    decide ((((putK (putK (putK (putK ([] : List (Key × V)) (Sum.inl x) (.bl true)) (Sum.inl y) (.bl true)) (Sum.inl z) (.bl true)) (Sum.inl w) (.bl true)).length : Nat) : Int) = 1) = decide (y = x ∧ z = x ∧ w = x) := by
  rcases hx with rfl | rfl <;> rcases hy with rfl | rfl <;> rcases hz with rfl | rfl <;> rcases hw with rfl | rfl <;> decide +kernel
theorem parD_isN (q : Hq) : decide ((((parD [] (ql q)).length : Nat) : Int) = 1) = decide (IsN q) := by
  have h : ∀ n : Int, n % 2 = 0 ∨ n % 2 = 1 := fun n => by omega
  exact parD4 (h q.a) (h q.b) (h q.c) (h q.d)

section
variable {P : Program} {w : World} {K : PySem.W.Frag} {mg : Str → Option Value} {base : Heap}
def spIsNum (K : PySem.W.Frag) : Sp := fun vs H Q _ => ∃ v q, vs = [v] ∧ IsQ K v q H ∧ ∀ H', Same H H' → Q (.bl (decide (IsN q))) H'
theorem c_is_number (T : TopOk K mg) : Cal P w K mg base 1 "is_number" (spIsNum K) [] := by
  refine mkcal T.d_is_number sc_is_number (fun vs H Q E h => ?_) (fun f cdv A outer s H vs Q E hr h => ?_)
  · obtain ⟨v, q, rfl, _⟩ := h
    rfl
  · obtain ⟨v, q, rfl, ⟨a, rfl, hv⟩, k⟩ := h
    obtain ⟨tP, gP⟩ := T.g_PARTS
    refine ⟨_, (pss_one (ps_ret (pe_and (pe_cmpR op_eq (pe_callB call_len_seq (by rfl) T.m_len (by decide +kernel) (pa_cons (pv 0) pa_nil)) (pe_gc (v := .int 4) rfl ⟨_, gP, ⟨_, rfl⟩⟩) (nomark _)) (pe_one (pe_cmpR op_eq (pe_callB call_lenD (by rfl) T.m_len (by decide +kernel) (pa_cons (pe_dc (own := [("part", 1)]) (g := gName 1) (tt := tYes) rfl sc_is_number.nd (pi_tup (pv 0)) (blkOk_by (N := N_is_number) (sc := fnScope s_is_number) (by decide +kernel)) (fun _ _ _ _ _ => (pg_name (i := 1) sc_is_number.nd rfl (Or.inl rfl))) (fun _ _ _ _ _ => pts_nil) (fun _ _ _ _ _ => (pe_op op_mod (pv 1) pe_int)) (fun _ _ _ _ _ => pe_bl)) pa_nil)) pe_int (nomark _)))))), ?_⟩
    refine ⟨_, rfl, _, _, rfl, .inr hv, rfl, true, rfl, iteT ?_⟩
    refine ⟨_, rfl, a, rfl, ⟨_, hv⟩, fun D nD => ?_⟩
    refine dc_tup (xs := (ql q).map V.int) (fun i H' => Same H H' ∧ H' D = some (.dK (parD [] ((ql q).take i)))) ⟨same_new nD, upd_same⟩ (fun i H' _ h => SqT.same h.1 hv) (fun i x H' e h => ?_) (fun H' h => ?_)
    · obtain ⟨s1, eD⟩ := h
      rw [List.getElem?_map] at e
      obtain ⟨n, en, rfl⟩ := Option.map_eq_some_iff.mp e
      refine ⟨rfl, turnT ⟨_, rfl, n, 2, rfl, rfl, by show (0 : Int) < 2; decide, _, .inl (n % 2), rfl, eD, ?_, same_upd s1 nD, ?_⟩⟩
      · have h1 := parD_len ((ql q).take i) []
        have h2 : ((ql q).take i).length ≤ 4 := by
          rw [List.length_take]; exact Nat.min_le_right _ _
        exact small1000 (by simp only [List.length_nil] at h1; omega)
      · rw [upd_same, List.take_add_one, en]
        exact congrArg (fun z => some (HO.dK z)) (parD_snoc _ _ _).symm
    · obtain ⟨s1, eD⟩ := h
      refine ⟨D, _, rfl, eD, rfl, ?_⟩
      have e : decide (V.int ((parD [] ((ql q).take ((ql q).map V.int).length)).length : Nat) = V.int 1) = decide (IsN q) := by
        rw [← parD_isN q]
        simp
      rw [e]
      exact k H' s1

/-! ### check_number, check_not_zero, conjugate, norm, less, product -/
def spCheck (K : PySem.W.Frag) : Sp := fun vs H Q _ => ∃ v q, vs = [v] ∧ IsQ K v q H ∧ IsN q ∧ ∀ H', Same H H' → Q .non H'
theorem c_check_number (T : TopOk K mg) : Cal P w K mg base 2 "check_number" (spCheck K) [] := by
  refine mkcal T.d_check_number sc_check_number (fun vs H Q E h => ?_) (fun f cdv A outer s H vs Q E hr h => ?_)
  · obtain ⟨v, q, rfl, _⟩ := h
    rfl
  · obtain ⟨v, q, rfl, hv, hn, k⟩ := h
    refine ⟨_, (pss_one (ps_if (pt_not (pt_val (pe_c (c_is_number T) hr (by decide) rfl (pa_cons (pv 0) pa_nil)))) pss_never pss_nil)), ?_⟩
    exact ⟨v, rfl, v, q, rfl, hv, fun H1 s1 => ⟨decide (IsN q), rfl, iteNS hn (k H1 s1)⟩⟩
def spCheckNZ (K : PySem.W.Frag) : Sp := fun vs H Q _ => ∃ v q, vs = [v] ∧ IsQ K v q H ∧ IsN q ∧ q ≠ zero ∧ ∀ H', Same H H' → Q .non H'
theorem ql_inj {p q : Hq} (h : ql p = ql q) : p = q := by
  unfold ql at h
  injection h with h1 h
  injection h with h2 h
  injection h with h3 h
  injection h with h4 h
  exact Hq.ext' h1 h2 h3 h4
theorem c_check_not_zero (T : TopOk K mg) : Cal P w K mg base 3 "check_not_zero" (spCheckNZ K) [] := by
  refine mkcal T.d_check_not_zero sc_check_not_zero (fun vs H Q E h => ?_) (fun f cdv A outer s H vs Q E hr h => ?_)
  · obtain ⟨v, q, rfl, _⟩ := h
    rfl
  · obtain ⟨v, q, rfl, hv, hn, hz, k⟩ := h
    obtain ⟨aZ, gZ, tZ⟩ := T.g_ZERO_numbers
    refine ⟨_, (pss_cons (ps_expr (pe_c (c_check_number T) hr (by decide) rfl (pa_cons (pv 0) pa_nil)))
      (pss_one (ps_if (pt_cmpR (op_eqT hr.units) (pe_callTy call_tuple_of (by rfl) T.m_tuple (by decide +kernel) (pa_cons (pv 0) pa_nil)) (pe_gc (v := .ref aZ) rfl ⟨_, gZ, rfl⟩) (nomark _)) pss_never pss_nil))), ?_⟩
    refine ⟨v, rfl, v, q, rfl, hv, hn, fun H1 s1 => ?_⟩
    have hv1 := hv.same s1
    obtain ⟨a, rfl, ha⟩ := hv1
    refine ⟨_, rfl, a, _, rfl, .inr ⟨ha, ql q, ql zero, ⟨a, rfl, ha⟩, ⟨aZ, rfl, tZ _⟩, false, ?_, iteF (k H1 s1)⟩⟩
    have : ¬ ql q = ql zero := fun e => hz (ql_inj e)
    rw [decide_eq_false this]
def spConj (K : PySem.W.Frag) : Sp := fun vs H Q _ => ∃ v q, vs = [v] ∧ IsQ K v q H ∧ IsN q ∧ ∀ u H', Same H H' → IsQ K u (cj q) H' → Q u H'
theorem c_conjugate (T : TopOk K mg) : Cal P w K mg base 3 "conjugate" (spConj K) [] := by
  refine mkcal T.d_conjugate sc_conjugate (fun vs H Q E h => ?_) (fun f cdv A outer s H vs Q E hr h => ?_)
  · obtain ⟨v, q, rfl, _⟩ := h
    rfl
  · obtain ⟨v, q, rfl, hv, hn, k⟩ := h
    refine ⟨_, (pss_cons (ps_expr (pe_c (c_check_number T) hr (by decide) rfl (pa_cons (pv 0) pa_nil)))
      (pss_cons (ps_asg (pv 0) (pg_tup rfl (pgs_cons (pg_name (i := 1) sc_conjugate.nd rfl (Or.inl rfl)) (pgs_cons (pg_name (i := 2) sc_conjugate.nd rfl (Or.inl rfl)) (pgs_cons (pg_name (i := 3) sc_conjugate.nd rfl (Or.inl rfl)) (pgs_cons (pg_name (i := 4) sc_conjugate.nd rfl (Or.inl rfl)) pgs_nil))))))
      (pss_one (ps_ret (pe_tup (pa_cons (pv 1) (pa_cons (pe_un un_neg (pv 2)) (pa_cons (pe_un un_neg (pv 3)) (pa_cons (pe_un un_neg (pv 4)) pa_nil))))))))), ?_⟩
    refine ⟨v, rfl, v, q, rfl, hv, hn, fun H1 s1 => ?_⟩
    obtain ⟨a, rfl, ha⟩ := hv.same s1
    refine ⟨_, rfl, a, _, rfl, ha, rfl, _, _, rfl, _, _, rfl, _, _, rfl, _, _, rfl, rfl, ?_⟩
    refine ⟨_, rfl, _, rfl, _, rfl, _, rfl, _, rfl, _, rfl, _, rfl, by show 4 ≤ sizeLine; decide, fun p np => ?_⟩
    exact k _ _ (same_put s1 np) IsTI.new

/-- bounded parts -/
structure Bd (q : Hq) : Prop where
  a : q.a.natAbs < 2 ^ 2000
  b : q.b.natAbs < 2 ^ 2000
  c : q.c.natAbs < 2 ^ 2000
  d : q.d.natAbs < 2 ^ 2000
theorem mulx {x y : Int} (hx : x.natAbs < 2 ^ 2000) (hy : y.natAbs < 2 ^ 2000) : CMulX x y := mulx_ok hx hy (by decide)
theorem Bd.mem {q : Hq} (h : Bd q) : ∀ x ∈ ql q, x.natAbs < 2 ^ 2000 := fun x hx => by
  unfold ql at hx
  rcases List.mem_cons.mp hx with rfl | hx
  · exact h.a
  rcases List.mem_cons.mp hx with rfl | hx
  · exact h.b
  rcases List.mem_cons.mp hx with rfl | hx
  · exact h.c
  rcases List.mem_cons.mp hx with rfl | hx
  · exact h.d
  cases hx
theorem four_lt : 4 < sizeLine := by decide
theorem ql_len (q : Hq) : (ql q).length < sizeLine := four_lt
def spNorm (K : PySem.W.Frag) : Sp := fun vs H Q _ => ∃ v q, vs = [v] ∧ IsQ K v q H ∧ IsN q ∧ Bd q ∧ ∀ H', Same H H' → Q (.int (nrm q)) H'
theorem n4_sum (q : Hq) : ((ql q).map fun x => x * x).sum = n4 q := by
  simp only [ql, List.map_cons, List.map_nil, List.sum_cons, List.sum_nil, n4]
  omega
theorem c_norm (T : TopOk K mg) : Cal P w K mg base 3 "norm" (spNorm K) [] := by
  refine mkcal T.d_norm sc_norm (fun vs H Q E h => ?_) (fun f cdv A outer s H vs Q E hr h => ?_)
  · obtain ⟨v, q, rfl, _⟩ := h
    rfl
  · obtain ⟨v, q, rfl, hv, hn, hb, k⟩ := h
    refine ⟨_, (pss_cons (ps_expr (pe_c (c_check_number T) hr (by decide) rfl (pa_cons (pv 0) pa_nil)))
      (pss_one (ps_ret (pe_op op_fdiv (pe_callB (cr_sum rfl) (by rfl) T.m_sum (by decide +kernel) (pa_cons (pe_lc (own := [("part", 1)]) (g := gName 1) (tt := tYes) rfl sc_norm.nd (pi_tup (pv 0)) (blkOk_by (N := N_norm) (sc := fnScope s_norm) (by decide +kernel)) (fun _ _ _ _ _ => (pg_name (i := 1) sc_norm.nd rfl (Or.inl rfl))) (fun _ _ _ _ _ => pts_nil) (fun _ _ _ _ _ => (pe_op op_mulX (pv 1) (pv 1)))) pa_nil)) pe_int)))), ?_⟩
    refine ⟨v, rfl, v, q, rfl, hv, hn, fun H1 s1 => ?_⟩
    obtain ⟨a, rfl, ha⟩ := hv.same s1
    refine ⟨_, rfl, a, rfl, ⟨_, ha⟩, fun D nD => lc_intsT ha nD (ql_len q) (fun x => x * x) (fun n H2 Qk hn s2 k2 => ?_) (fun H2 s2 e2 => ?_)⟩
    · have hm := mulx (hb.mem n hn) (hb.mem n hn)
      refine ⟨_, rfl, _, rfl, ?_⟩
      exact ⟨n, n, rfl, rfl, hm, k2⟩
    · refine ⟨D, _, rfl, SqL.of e2, _, 4, rfl, rfl, ⟨by decide, by decide⟩, ?_⟩
      rw [n4_sum]
      exact k H2 (s1.trans s2)
def spLess (K : PySem.W.Frag) : Sp := fun vs H Q _ => ∃ v u p q, vs = [v, u] ∧ IsQ K v p H ∧ IsQ K u q H ∧ IsN p ∧ IsN q ∧ ∀ z H', Same H H' → IsQ K z (TP.sub p q) H' → Q z H'
theorem c_less (T : TopOk K mg) : Cal P w K mg base 3 "less" (spLess K) [] := by
  refine mkcal T.d_less sc_less (fun vs H Q E h => ?_) (fun f cdv A outer s H vs Q E hr h => ?_)
  · obtain ⟨v, u, p, q, rfl, _⟩ := h
    rfl
  · obtain ⟨v, u, p, q, rfl, hp, hq, np, nq, k⟩ := h
    refine ⟨_, (pss_cons (ps_expr (pe_c (c_check_number T) hr (by decide) rfl (pa_cons (pv 0) pa_nil)))
      (pss_cons (ps_expr (pe_c (c_check_number T) hr (by decide) rfl (pa_cons (pv 1) pa_nil)))
      (pss_one (ps_ret (pe_callTy call_tuple_of (by rfl) T.m_tuple (by decide +kernel) (pa_cons (pe_lc (own := [("part", 2), ("far", 3)]) (g := gTup K 2 (gCons (gName 2) (gCons (gName 3) gNil))) (tt := tYes) rfl sc_less.nd (pi_zipA (by rfl) T.m_zip (pa_cons (pv 0) (pa_cons (pv 1) pa_nil))) (blkOk_by (N := N_less) (sc := fnScope s_less) (by decide +kernel)) (fun _ _ _ _ _ => (pg_tup rfl (pgs_cons (pg_name (i := 2) sc_less.nd rfl (Or.inl rfl)) (pgs_cons (pg_name (i := 3) sc_less.nd rfl (Or.inl rfl)) pgs_nil)))) (fun _ _ _ _ _ => pts_nil) (fun _ _ _ _ _ => (pe_op op_sub (pv 2) (pv 3)))) pa_nil)))))), ?_⟩
    refine ⟨v, rfl, v, p, rfl, hp, np, fun H1 s1 => ⟨u, rfl, u, q, rfl, hq.same s1, nq, fun H2 s2 => ?_⟩⟩
    have s12 := s1.trans s2
    obtain ⟨a, rfl, ha⟩ := hp.same s12
    obtain ⟨b, rfl, hb⟩ := hq.same s12
    refine ⟨_, rfl, _, rfl, a, b, (ql p).map V.int, (ql q).map V.int, rfl, .inr ⟨ha, hb, fun D nD => lc_zipT ha hb rfl (by decide) nD (ql_len p) (fun x y => x - y) (fun n m H3 Qk _ s3 k3 => ?_) (fun H3 s3 e3 => ?_)⟩⟩
    · exact ⟨_, rfl, _, rfl, n, m, rfl, rfl, k3⟩
    · refine ⟨D, _, rfl, .inl ⟨SqL.of e3, fun l nl => ?_⟩⟩
      exact k _ _ (same_put (s12.trans s3) nl) IsTI.new
def spProduct (K : PySem.W.Frag) : Sp := fun vs H Q _ => ∃ v u p q, vs = [v, u] ∧ IsQ K v p H ∧ IsQ K u q H ∧ IsN p ∧ IsN q ∧ Bd p ∧ Bd q ∧ ∀ z H', Same H H' → IsTT z (ql (mul p q)) H' → Q z H'
theorem c_product (T : TopOk K mg) : Cal P w K mg base 3 "product" (spProduct K) [] := by
  refine mkcal T.d_product sc_product (fun vs H Q E h => ?_) (fun f cdv A outer s H vs Q E hr h => ?_)
  · obtain ⟨v, u, p, q, rfl, _⟩ := h
    rfl
  · obtain ⟨v, u, p, q, rfl, hp, hq, np, nq, bp, bq, k⟩ := h
    have maa := mulx bp.a bq.a
    have mab := mulx bp.a bq.b
    have mac := mulx bp.a bq.c
    have mad := mulx bp.a bq.d
    have mba := mulx bp.b bq.a
    have mbb := mulx bp.b bq.b
    have mbc := mulx bp.b bq.c
    have mbd := mulx bp.b bq.d
    have mca := mulx bp.c bq.a
    have mcb := mulx bp.c bq.b
    have mcc := mulx bp.c bq.c
    have mcd := mulx bp.c bq.d
    have mda := mulx bp.d bq.a
    have mdb := mulx bp.d bq.b
    have mdc := mulx bp.d bq.c
    have mdd := mulx bp.d bq.d
    refine ⟨_, (pss_cons (ps_expr (pe_c (c_check_number T) hr (by decide) rfl (pa_cons (pv 0) pa_nil)))
      (pss_cons (ps_expr (pe_c (c_check_number T) hr (by decide) rfl (pa_cons (pv 1) pa_nil)))
      (pss_cons (ps_asg (pv 0) (pg_tup rfl (pgs_cons (pg_name (i := 2) sc_product.nd rfl (Or.inl rfl)) (pgs_cons (pg_name (i := 3) sc_product.nd rfl (Or.inl rfl)) (pgs_cons (pg_name (i := 4) sc_product.nd rfl (Or.inl rfl)) (pgs_cons (pg_name (i := 5) sc_product.nd rfl (Or.inl rfl)) pgs_nil))))))
      (pss_cons (ps_asg (pv 1) (pg_tup rfl (pgs_cons (pg_name (i := 6) sc_product.nd rfl (Or.inl rfl)) (pgs_cons (pg_name (i := 7) sc_product.nd rfl (Or.inl rfl)) (pgs_cons (pg_name (i := 8) sc_product.nd rfl (Or.inl rfl)) (pgs_cons (pg_name (i := 9) sc_product.nd rfl (Or.inl rfl)) pgs_nil))))))
      (pss_cons (ps_set (i := 10) sc_product.nd rfl (Or.inl rfl) (pe_tup (pa_cons (pe_op op_sub (pe_op op_sub (pe_op op_sub (pe_op op_mulX (pv 2) (pv 6)) (pe_op op_mulX (pv 3) (pv 7))) (pe_op op_mulX (pv 4) (pv 8))) (pe_op op_mulX (pv 5) (pv 9))) (pa_cons (pe_op op_sub (pe_op op_add (pe_op op_add (pe_op op_mulX (pv 2) (pv 7)) (pe_op op_mulX (pv 3) (pv 6))) (pe_op op_mulX (pv 4) (pv 9))) (pe_op op_mulX (pv 5) (pv 8))) (pa_cons (pe_op op_add (pe_op op_add (pe_op op_sub (pe_op op_mulX (pv 2) (pv 8)) (pe_op op_mulX (pv 3) (pv 9))) (pe_op op_mulX (pv 4) (pv 6))) (pe_op op_mulX (pv 5) (pv 7))) (pa_cons (pe_op op_add (pe_op op_sub (pe_op op_add (pe_op op_mulX (pv 2) (pv 9)) (pe_op op_mulX (pv 3) (pv 8))) (pe_op op_mulX (pv 4) (pv 7))) (pe_op op_mulX (pv 5) (pv 6))) pa_nil))))))
      (pss_one (ps_ret (pe_callTy call_tuple_of (by rfl) T.m_tuple (by decide +kernel) (pa_cons (pe_lc (own := [("part", 11)]) (g := gName 11) (tt := tYes) rfl sc_product.nd (pi_tup (pv 10)) (blkOk_by (N := N_product) (sc := fnScope s_product) (by decide +kernel)) (fun _ _ _ _ _ => (pg_name (i := 11) sc_product.nd rfl (Or.inl rfl))) (fun _ _ _ _ _ => pts_nil) (fun _ _ _ _ _ => (pe_op op_fdiv (pv 11) pe_int))) pa_nil))))))))), ?_⟩
    rw [show L2.start N_product [v, u] = [some v, some u, none, none, none, none, none, none, none, none, none, none] from rfl]
    refine ⟨v, rfl, v, p, rfl, hp, np, fun H1 s1 => ⟨u, rfl, u, q, rfl, hq.same s1, nq, fun H2 s2 => ?_⟩⟩
    have s12 := s1.trans s2
    obtain ⟨a, rfl, ha⟩ := hp.same s12
    obtain ⟨b, rfl, hb⟩ := hq.same s12
    refine ⟨_, rfl, a, _, rfl, ha, rfl, _, _, rfl, _, _, rfl, _, _, rfl, _, _, rfl, rfl, ?_⟩
    refine ⟨_, rfl, b, _, rfl, hb, rfl, _, _, rfl, _, _, rfl, _, _, rfl, _, _, rfl, rfl, ?_⟩
    simp only [List.set_cons_succ, List.set_cons_zero]
    refine ⟨_, rfl, _, rfl, ?_⟩
    refine ⟨_, _, rfl, rfl, maa, ?_⟩
    refine ⟨_, rfl, _, rfl, ?_⟩
    refine ⟨_, _, rfl, rfl, mbb, ?_⟩
    refine ⟨_, _, rfl, rfl, ?_⟩
    refine ⟨_, rfl, _, rfl, ?_⟩
    refine ⟨_, _, rfl, rfl, mcc, ?_⟩
    refine ⟨_, _, rfl, rfl, ?_⟩
    refine ⟨_, rfl, _, rfl, ?_⟩
    refine ⟨_, _, rfl, rfl, mdd, ?_⟩
    refine ⟨_, _, rfl, rfl, ?_⟩
    refine ⟨_, rfl, _, rfl, ?_⟩
    refine ⟨_, _, rfl, rfl, mab, ?_⟩
    refine ⟨_, rfl, _, rfl, ?_⟩
    refine ⟨_, _, rfl, rfl, mba, ?_⟩
    refine ⟨_, _, rfl, rfl, ?_⟩
    refine ⟨_, rfl, _, rfl, ?_⟩
    refine ⟨_, _, rfl, rfl, mcd, ?_⟩
    refine ⟨_, _, rfl, rfl, ?_⟩
    refine ⟨_, rfl, _, rfl, ?_⟩
    refine ⟨_, _, rfl, rfl, mdc, ?_⟩
    refine ⟨_, _, rfl, rfl, ?_⟩
    refine ⟨_, rfl, _, rfl, ?_⟩
    refine ⟨_, _, rfl, rfl, mac, ?_⟩
    refine ⟨_, rfl, _, rfl, ?_⟩
    refine ⟨_, _, rfl, rfl, mbd, ?_⟩
    refine ⟨_, _, rfl, rfl, ?_⟩
    refine ⟨_, rfl, _, rfl, ?_⟩
    refine ⟨_, _, rfl, rfl, mca, ?_⟩
    refine ⟨_, _, rfl, rfl, ?_⟩
    refine ⟨_, rfl, _, rfl, ?_⟩
    refine ⟨_, _, rfl, rfl, mdb, ?_⟩
    refine ⟨_, _, rfl, rfl, ?_⟩
    refine ⟨_, rfl, _, rfl, ?_⟩
    refine ⟨_, _, rfl, rfl, mad, ?_⟩
    refine ⟨_, rfl, _, rfl, ?_⟩
    refine ⟨_, _, rfl, rfl, mbc, ?_⟩
    refine ⟨_, _, rfl, rfl, ?_⟩
    refine ⟨_, rfl, _, rfl, ?_⟩
    refine ⟨_, _, rfl, rfl, mcb, ?_⟩
    refine ⟨_, _, rfl, rfl, ?_⟩
    refine ⟨_, rfl, _, rfl, ?_⟩
    refine ⟨_, _, rfl, rfl, mda, ?_⟩
    refine ⟨_, _, rfl, rfl, ?_⟩
    refine ⟨by show 4 ≤ sizeLine; decide, fun t nt => ?_⟩
    have ht : SqT K (upd H2 t (.tup [.int (raw1 p q), .int (raw2 p q), .int (raw3 p q), .int (raw4 p q)])) t (([raw1 p q, raw2 p q, raw3 p q, raw4 p q] : List Int).map V.int) := SqT.of upd_same
    refine ⟨_, rfl, t, rfl, ⟨_, ht⟩, fun D nD => lc_intsT ht nD four_lt (fun x => x / 2) (fun n H3 Qk _ s3 k3 => ?_) (fun H3 s3 e3 => ?_)⟩
    · exact ⟨_, rfl, n, 2, rfl, rfl, ⟨by decide, by decide⟩, k3⟩
    · refine ⟨D, _, rfl, .inl ⟨SqL.of e3, fun l nl => ?_⟩⟩
      exact k _ _ (same_put ((same_put s12 nt).trans s3) nl) IsTT.new
end
end TPW
/-! A list comprehension with four clauses (any of them may be tested): pe_lc4. -/
namespace TPC
open PySem PySem.Spec PyProof.Rows L2

section
variable {prog : Program} {w : World} {A : Around} {R : Result → Shared → Prop} {s : Shared} {elt t i i' : Expr} {ifs : List Expr} {gs : List Comprehension} {scope : Scope} {pos : Pos} {it acc : Value} {env : Env} {d : Nat}
/-- the loop of a clause that has another one behind it -/
theorem loop_out (heq : ∀ it acc env, compTurn (.ListComp elt gs scope pos) d it acc env = (do
      standAt i.pos
      match ← pyNext it with
      | none => pure (.done .next)
      | some v =>
        letOwnedTupleGo t it v
        assign t env v
        let mut ok := true
        for c in ifs do
          if ok then ok ← isTrue c env (eval c env)
        if ok then
          let x ← eval i' env
          standAt i'.pos
          let x ← foldedSetIterable i' env x
          let _ ← runOwn (.compStart (.ListComp elt gs scope pos) (d + 1) (← holding [x] (pyIter x)) acc env) env
        again (.compLoop (.ListComp elt gs scope pos) d it acc env)))
    (hs : ∀ x, foldedSetIterable i' env x = pure x) (I : Nat → Shared → Prop)
    (turn : ∀ n s, I n s → wpAny (model prog w) A (pyNext it) (fun r s₁ => match r with
      | none => R (.ok .next) s₁
      | some v => wpAny (model prog w) A (letOwnedTupleGo t it v) (fun _ s₁' => wpAny (model prog w) A (assign t env v) (fun _ s₂ =>
          wpAny (model prog w) A (forIn ifs true fun c r => if r = true then do let ok ← isTrue c env (eval c env); pure (ForInStep.yield ok) else pure (ForInStep.yield r)) (fun ok s₃ =>
            if ok = true then wpAny (model prog w) A (eval i' env) (fun x s₄ => wpAny (model prog w) A (pyIter x) (fun it1 s₅ =>
              codeAny (model prog w) A (.compStart (.ListComp elt gs scope pos) (d + 1) it1 acc env) (fun r s' => match r with
                | .ok _ => ∃ m, m < n ∧ I m s'
                | .error _ => False) s₅) (notedBy (model prog w) A env fun e s' => R (.error e) s') s₄) (notedBy (model prog w) A env fun e s' => R (.error e) s') s₃
            else ∃ m, m < n ∧ I m s₃) (notedBy (model prog w) A env fun e s' => R (.error e) s') s₂) (notedBy (model prog w) A env fun e s' => R (.error e) s') s₁') (notedBy (model prog w) A env fun e s' => R (.error e) s') s₁) (notedBy (model prog w) A env fun e s' => R (.error e) s') s)
    (n : Nat) (h : I n s) :
    codeAny (model prog w) A (.compLoop (.ListComp elt gs scope pos) d it acc env) R s := by
  refine codeAny_loop rfl I (fun n s hI => ?_) n h
  show wpAny _ A ((compTurn (.ListComp elt gs scope pos) d it acc env).onRaise (fun x => do noteFrame x env; theTreesLotGoes x)) _ _ s
  refine wpAny_noted ?_
  rw [heq]
  refine wpAny_bind (wpAny_standAt (wpAny_bind (wpAny_mono (turn n s hI) (fun r s₁ h₁ => ?_) fun _ _ h' => h')))
  cases r with
  | none => exact wpAny_pure h₁
  | some v =>
    refine wpAny_bind (wpAny_mono h₁ (fun _ s₁' h₁' => ?_) fun _ _ h' => h')
    refine wpAny_bind (wpAny_mono h₁' (fun _ s₂ h₂ => wpAny_bind (wpAny_mono h₂ (fun ok s₃ h₃ => ?_) fun _ _ h' => h')) fun _ _ h' => h')
    cases ok with
    | false => exact wpAny_pure ⟨rfl, h₃⟩
    | true =>
      refine wpAny_bind (wpAny_mono h₃ (fun x s₄ h₄ => ?_) fun _ _ h' => h')
      refine wpAny_bind (wpAny_standAt (wpAny_bind (wpAny_of_eq (hs x) (wpAny_bind (wpAny_holding (wpAny_mono h₄ (fun it1 s₅ h₅ => ?_) fun _ _ h' => h'))))))
      refine wpAny_bind (wpAny_runOwn ?_)
      rw [Around.mark_none]
      refine codeAny_mono h₅ fun r s' hr => ?_
      cases r with
      | ok f =>
        first
          | exact wpAny_pure ⟨rfl, hr⟩
          | exact wpAny_bind (wpAny_pure (wpAny_pure ⟨rfl, hr⟩))
      | error e => exact hr.elim
/-- the loop of the last clause -/
theorem loop_in (heq : ∀ it acc env, compTurn (.ListComp elt gs scope pos) d it acc env = (do
      standAt i.pos
      match ← pyNext it with
      | none => pure (.done .next)
      | some v =>
        letOwnedTupleGo t it v
        assign t env v
        let mut ok := true
        for c in ifs do
          if ok then ok ← isTrue c env (eval c env)
        if ok then
          (do let _ ← call (.builtin "list.append") [acc, ← eval elt env])
        again (.compLoop (.ListComp elt gs scope pos) d it acc env)))
    (I : Nat → Shared → Prop)
    (turn : ∀ n s, I n s → wpAny (model prog w) A (pyNext it) (fun r s₁ => match r with
      | none => R (.ok .next) s₁
      | some v => wpAny (model prog w) A (letOwnedTupleGo t it v) (fun _ s₁' => wpAny (model prog w) A (assign t env v) (fun _ s₂ =>
          wpAny (model prog w) A (forIn ifs true fun c r => if r = true then do let ok ← isTrue c env (eval c env); pure (ForInStep.yield ok) else pure (ForInStep.yield r)) (fun ok s₃ =>
            if ok = true then wpAny (model prog w) A (eval elt env) (fun x s₄ =>
              wpAny (model prog w) A (call (.builtin "list.append") [acc, x]) (fun _ s₅ => ∃ m, m < n ∧ I m s₅) (notedBy (model prog w) A env fun e s' => R (.error e) s') s₄) (notedBy (model prog w) A env fun e s' => R (.error e) s') s₃
            else ∃ m, m < n ∧ I m s₃) (notedBy (model prog w) A env fun e s' => R (.error e) s') s₂) (notedBy (model prog w) A env fun e s' => R (.error e) s') s₁') (notedBy (model prog w) A env fun e s' => R (.error e) s') s₁) (notedBy (model prog w) A env fun e s' => R (.error e) s') s)
    (n : Nat) (h : I n s) :
    codeAny (model prog w) A (.compLoop (.ListComp elt gs scope pos) d it acc env) R s := by
  refine codeAny_loop rfl I (fun n s hI => ?_) n h
  show wpAny _ A ((compTurn (.ListComp elt gs scope pos) d it acc env).onRaise (fun x => do noteFrame x env; theTreesLotGoes x)) _ _ s
  refine wpAny_noted ?_
  rw [heq]
  refine wpAny_bind (wpAny_standAt (wpAny_bind (wpAny_mono (turn n s hI) (fun r s₁ h₁ => ?_) fun _ _ h' => h')))
  cases r with
  | none => exact wpAny_pure h₁
  | some v =>
    refine wpAny_bind (wpAny_mono h₁ (fun _ s₁' h₁' => ?_) fun _ _ h' => h')
    refine wpAny_bind (wpAny_mono h₁' (fun _ s₂ h₂ => wpAny_bind (wpAny_mono h₂ (fun ok s₃ h₃ => ?_) fun _ _ h' => h')) fun _ _ h' => h')
    cases ok with
    | false => exact wpAny_pure ⟨rfl, h₃⟩
    | true =>
      exact wpAny_bind (wpAny_bind (wpAny_mono h₃ (fun x s₄ h₄ => wpAny_bind (wpAny_mono h₄ (fun _ s₅ h₅ => wpAny_pure (wpAny_pure ⟨rfl, h₅⟩)) fun _ _ h' => h')) fun _ _ h' => h'))
/-- a later clause's start -/
theorem start_ok (hg : gs[d]? = some ⟨t, i, ifs, 0⟩) (h0 : codeAny (model prog w) A (.compLoop (.ListComp elt gs scope pos) d it acc env) R s)
    (h : wpAny (model prog w) A (pyIter it) (fun it' s' => codeAny (model prog w) A (.compLoop (.ListComp elt gs scope pos) d it' acc env) R s')
      (notedBy (model prog w) A env fun x s' => R (.error x) s') s) :
    codeAny (model prog w) A (.compStart (.ListComp elt gs scope pos) d it acc env) R s := by
  refine codeAny_of_tree ?_
  show wpAny _ _ ((compStart (.ListComp elt gs scope pos) d it acc env).onRaise (fun x => do noteFrame x env; standAt theWindowsPlace)) _ _ s
  refine wpAny_notedAt ?_
  unfold compStart
  have hc : (clausesOf (.ListComp elt gs scope pos))[d]? = some ⟨t, i, ifs, 0⟩ := hg
  rw [hc]
  show wpAny _ _ (ask >>= _) _ _ s
  refine wpAny_bind (wpAny_askSetting (wpAny_ite ?_))
  split
  · first
      | exact wpAny_bind (wpAny_pure (wpAny_pure (And.intro rfl h0)))
      | exact wpAny_pure (And.intro rfl h0)
  · first
      | exact wpAny_bind (wpAny_rule (wpAny_bind (wpAny_standAt (wpAny_bind (wpAny_mono h (fun it' s' h' => wpAny_pure (And.intro rfl h')) fun _ _ x => x)))))
      | (refine wpAny_bind (wpAny_rule ?_); show wpAny _ _ (standAt i.pos >>= _) _ _ s; exact wpAny_bind (wpAny_standAt (wpAny_bind (wpAny_mono h (fun it' s' h' => wpAny_pure (And.intro rfl h')) fun _ _ x => x))))
end

theorem turn4_0 (elt t0 i0 t1 i1 : Expr) (ifs0 ifs1 : List Expr) (c2 c3 : Comprehension) (scope : Scope) (pos : Pos) (it acc : Value) (env : Env) :
    compTurn (.ListComp elt [⟨t0, i0, ifs0, 0⟩, ⟨t1, i1, ifs1, 0⟩, c2, c3] scope pos) 0 it acc env = (do
      standAt i0.pos
      match ← pyNext it with
      | none => pure (.done .next)
      | some v =>
        letOwnedTupleGo t0 it v
        assign t0 env v
        let mut ok := true
        for c in ifs0 do
          if ok then ok ← isTrue c env (eval c env)
        if ok then
          let x ← eval i1 env
          standAt i1.pos
          let x ← foldedSetIterable i1 env x
          let _ ← runOwn (.compStart (.ListComp elt [⟨t0, i0, ifs0, 0⟩, ⟨t1, i1, ifs1, 0⟩, c2, c3] scope pos) (0 + 1) (← holding [x] (pyIter x)) acc env) env
        again (.compLoop (.ListComp elt [⟨t0, i0, ifs0, 0⟩, ⟨t1, i1, ifs1, 0⟩, c2, c3] scope pos) 0 it acc env)) := by rfl
theorem turn4_1 (elt t0 i0 t1 i1 : Expr) (ifs0 ifs1 : List Expr) (c0 c3 : Comprehension) (scope : Scope) (pos : Pos) (it acc : Value) (env : Env) :
    compTurn (.ListComp elt [c0, ⟨t0, i0, ifs0, 0⟩, ⟨t1, i1, ifs1, 0⟩, c3] scope pos) 1 it acc env = (do
      standAt i0.pos
      match ← pyNext it with
      | none => pure (.done .next)
      | some v =>
        letOwnedTupleGo t0 it v
        assign t0 env v
        let mut ok := true
        for c in ifs0 do
          if ok then ok ← isTrue c env (eval c env)
        if ok then
          let x ← eval i1 env
          standAt i1.pos
          let x ← foldedSetIterable i1 env x
          let _ ← runOwn (.compStart (.ListComp elt [c0, ⟨t0, i0, ifs0, 0⟩, ⟨t1, i1, ifs1, 0⟩, c3] scope pos) (1 + 1) (← holding [x] (pyIter x)) acc env) env
        again (.compLoop (.ListComp elt [c0, ⟨t0, i0, ifs0, 0⟩, ⟨t1, i1, ifs1, 0⟩, c3] scope pos) 1 it acc env)) := by rfl
theorem turn4_2 (elt t0 i0 t1 i1 : Expr) (ifs0 ifs1 : List Expr) (c0 c1 : Comprehension) (scope : Scope) (pos : Pos) (it acc : Value) (env : Env) :
    compTurn (.ListComp elt [c0, c1, ⟨t0, i0, ifs0, 0⟩, ⟨t1, i1, ifs1, 0⟩] scope pos) 2 it acc env = (do
      standAt i0.pos
      match ← pyNext it with
      | none => pure (.done .next)
      | some v =>
        letOwnedTupleGo t0 it v
        assign t0 env v
        let mut ok := true
        for c in ifs0 do
          if ok then ok ← isTrue c env (eval c env)
        if ok then
          let x ← eval i1 env
          standAt i1.pos
          let x ← foldedSetIterable i1 env x
          let _ ← runOwn (.compStart (.ListComp elt [c0, c1, ⟨t0, i0, ifs0, 0⟩, ⟨t1, i1, ifs1, 0⟩] scope pos) (2 + 1) (← holding [x] (pyIter x)) acc env) env
        again (.compLoop (.ListComp elt [c0, c1, ⟨t0, i0, ifs0, 0⟩, ⟨t1, i1, ifs1, 0⟩] scope pos) 2 it acc env)) := by rfl
theorem turn4_3 (elt t1 i1 : Expr) (ifs1 : List Expr) (c0 c1 c2 : Comprehension) (scope : Scope) (pos : Pos) (it acc : Value) (env : Env) :
    compTurn (.ListComp elt [c0, c1, c2, ⟨t1, i1, ifs1, 0⟩] scope pos) 3 it acc env = (do
      standAt i1.pos
      match ← pyNext it with
      | none => pure (.done .next)
      | some v =>
        letOwnedTupleGo t1 it v
        assign t1 env v
        let mut ok := true
        for c in ifs1 do
          if ok then ok ← isTrue c env (eval c env)
        if ok then
          (do let _ ← call (.builtin "list.append") [acc, ← eval elt env])
        again (.compLoop (.ListComp elt [c0, c1, c2, ⟨t1, i1, ifs1, 0⟩] scope pos) 3 it acc env)) := by rfl

/-! ### readings: what is left of the clauses, from slots and a heap to a goal on heaps -/
abbrev TL := L2.St → Hp → (Hp → Prop) → Prop
def tEmit (te : TE) (D : Addr) : TL := fun σ H Nx => te σ H fun y H7 => ∃ acc, H7 D = some (.lst acc) ∧ acc.length < sizeLine ∧ Nx (upd H7 D (.lst (acc ++ [y])))
/-- vs: the names of this clause and of those behind it -/
def tClause (wi : TI) (g : TG) (tt : TT) (vs : List Nat) (tail : TL) : TL := fun σ H Nx => wi σ H fun J H4 => ∃ W : Nat → Nat → Hp → Prop, (∃ m, W 0 m H4) ∧ ∀ j k H, W j k H →
  (J.stop j H ∧ Nx H) ∨ (J.go j H ∧ ∃ Nx1 : Hp → Prop, (∀ H', Nx1 H' → ∃ k', k' < k ∧ W (j + 1) k' H') ∧ ∀ x H', J.yld j H x H' → g x (wipe σ vs) H' fun σ3 H5 => wipe σ3 vs = wipe σ vs ∧ tt σ3 H5 fun b H6 =>
    if b = true then tail σ3 H6 Nx1 else Nx1 H6)

section
variable {X : Cx} {D : Addr} {us us' : List Nat} {tail : TL} {elt t i i' : Expr} {ifs : List Expr} {gs : List Comprehension} {scope : Scope} {pos : Pos} {d : Nat} {te : TE} {wi : TI} {g : TG} {tt : TT}
/-- a piece of the turn that ends in Rr; the names us may be lost -/
def Runs (X : Cx) (us : List Nat) (code : (Value → Shared → Prop) → (Shared → Prop) → Shared → Prop) (tail : TL) : Prop :=
  ∀ (pins : List (Addr × Obj)) (s : Shared) (σ : L2.St) (H : Hp) (Nx : Hp → Prop) (E : Value → Shared → Prop) (Rr : Shared → Prop), Inv X pins σ H s → tail σ H Nx →
    (∀ s' σ' H', Inv X pins σ' H' s' → σ.length = σ'.length → (∀ (j : Nat) v, j ∉ us → σ[j]? = some (some v) → σ'[j]? = some (some v)) → Nx H' → Rr s') → code E Rr s
/-- the element's turn -/
def cEmit (X : Cx) (elt : Expr) (D : Addr) : (Value → Shared → Prop) → (Shared → Prop) → Shared → Prop := fun E Rr s =>
  wpAny (model X.prog X.w) X.A (eval elt X.env) (fun x s₄ => wpAny (model X.prog X.w) X.A (call (.builtin "list.append") [.ref D, x]) (fun _ s₅ => Rr s₅) E s₄) E s
/-- the next clause's -/
def cClause (X : Cx) (elt : Expr) (gs : List Comprehension) (scope : Scope) (pos : Pos) (d : Nat) (i : Expr) (D : Addr) : (Value → Shared → Prop) → (Shared → Prop) → Shared → Prop := fun E Rr s =>
  wpAny (model X.prog X.w) X.A (eval i X.env) (fun x s₄ => wpAny (model X.prog X.w) X.A (pyIter x) (fun it1 s₅ =>
    codeAny (model X.prog X.w) X.A (.compStart (.ListComp elt gs scope pos) d it1 (.ref D) X.env) (fun r s' => match r with
      | .ok _ => Rr s'
      | .error _ => False) s₅) E s₄) E s
theorem runs_emit (hx : X.xe = fun _ _ => False) (he : PE X elt te) : Runs X [] (cEmit X elt D) (tEmit te D) := by
  intro pins s σ H Nx E Rr I h k
  have he := he.run pins s σ H _ I h
  rw [hx] at he
  refine thnF he fun z s17 ⟨yv, H17, I17, r17, acc, hD17, hz17, nx⟩ => ?_
  exact app_ok I17 hD17 hz17 r17 fun s18 I18 => k s18 σ _ I18 rfl (fun j v _ e => e) nx
/-- one clause, by what its turn does behind its tests -/
theorem runs_clause {code : (Value → Shared → Prop) → (Shared → Prop) → Shared → Prop} (hc : X.calm = true) (hx : X.xe = fun _ _ => False) (hg : gs[d]? = some ⟨t, i, ifs, 0⟩) (hi : PI X t i wi) (pg : PG X t g) (pt : PTs X ifs tt) (ht : Runs X us' code tail) (hu : ∀ j ∈ us', j ∈ us)
    (loop : ∀ (it : Value) (R : Result → Shared → Prop) (I : Nat → Shared → Prop), (∀ n s, I n s → wpAny (model X.prog X.w) X.A (pyNext it) (fun r s₁ => match r with
      | none => R (.ok .next) s₁
      | some v => wpAny (model X.prog X.w) X.A (letOwnedTupleGo t it v) (fun _ s₁' => wpAny (model X.prog X.w) X.A (assign t X.env v) (fun _ s₂ =>
          wpAny (model X.prog X.w) X.A (forIn ifs true fun c r => if r = true then do let ok ← isTrue c X.env (eval c X.env); pure (ForInStep.yield ok) else pure (ForInStep.yield r)) (fun ok s₃ =>
            if ok = true then code (notedBy (model X.prog X.w) X.A X.env fun e s' => R (.error e) s') (fun s' => ∃ m, m < n ∧ I m s') s₃
            else ∃ m, m < n ∧ I m s₃) (notedBy (model X.prog X.w) X.A X.env fun e s' => R (.error e) s') s₂) (notedBy (model X.prog X.w) X.A X.env fun e s' => R (.error e) s') s₁') (notedBy (model X.prog X.w) X.A X.env fun e s' => R (.error e) s') s₁) (notedBy (model X.prog X.w) X.A X.env fun e s' => R (.error e) s') s) →
      ∀ (n : Nat) (s : Shared), I n s → codeAny (model X.prog X.w) X.A (.compLoop (.ListComp elt gs scope pos) d it (.ref D) X.env) R s) :
    Runs X us (cClause X elt gs scope pos d i D) (tClause wi g tt us tail) := by
  intro pins s9 σ8 H9 Nx E Rr I9 h9 k9
  have h0 := hi.run pins s9 σ8 H9 _ I9 h9
  rw [hx] at h0
  refine thnF h0 fun xv s10 hx10 => thnF hx10 fun itv s11 h11 => ?_
  obtain ⟨it1, fp1, tn1, J1, H11, e1, I11, T1, st11, f11, W1, ⟨m1, w1⟩, turn1⟩ := h11
  subst e1
  have stat1 : ∀ {H' : Hp}, (∀ b ∈ fp1, H' b = none) → ∀ b ∈ fp1, FpOk X pins H' b := fun hn b hb => ⟨hn b hb, (f11 b hb).2⟩
  have loop1 : codeAny (model X.prog X.w) X.A (.compLoop (.ListComp elt gs scope pos) d (.ref it1) (.ref D) X.env)
      (fun r s' => match r with
        | .ok _ => Rr s'
        | .error _ => False) s11 := by
    refine loop (.ref it1) _ (fun k s' => ∃ j H', Inv X pins (wipe σ8 us) H' s' ∧ tn1 j s'.heap ∧ (∀ b ∈ fp1, H' b = none) ∧ W1 j k H') ?_ m1 s11 ⟨0, H11, I11.weak (wipe_length _ _) (fun j v e => (wipe_some e).1), st11, fun b hb => (f11 b hb).1, w1⟩
    rintro k s12 ⟨j, H12, I12, st12, n12, w12⟩
    rcases turn1 j k H12 w12 with ⟨stop1, nx1⟩ | ⟨go1, Nx1, hNx1, step1⟩
    · refine thnF (T1.done X rfl rfl rfl hc j _ s12 (wipe σ8 us) H12 (fun _ _ => False) I12 (stat1 n12) st12 stop1) fun r s13 ⟨hr, I13⟩ => ?_
      subst hr
      exact k9 s13 _ H12 I13 (wipe_length σ8 us).symm (fun j v hj e => (wipe_out hj).trans e) nx1
    · refine thnF (T1.item X rfl rfl rfl hc j _ s12 (wipe σ8 us) H12 (fun _ _ => False) I12 (stat1 n12) st12 go1) fun r s13 ⟨u1, hr, h13⟩ => ?_
      subst hr
      refine thnF h13 fun _ s14 ⟨x1, H14, I14, r14, y14, st14, n14⟩ => ?_
      have I14' := I14.pinned (stat1 n14) (T1.obj _ _ st14)
      have hpg := pg.run _ s14 (wipe σ8 us) H14 x1 u1 _ I14' r14 (step1 x1 H14 y14)
      rw [hx] at hpg
      refine thnF hpg fun _ s15 ⟨σ15, H15, I15, hw15, q15⟩ => ?_
      have hpt := pt.run _ s15 σ15 H15 _ I15 q15
      rw [hx] at hpt
      refine thnF hpt fun b1 s16 ⟨H16, I16, q16⟩ => ?_
      have fin1 : ∀ {s' : Shared} {σ' : L2.St} {H' : Hp}, Inv X (pins ++ pinsAt fp1 s14.heap) σ' H' s' → σ15.length = σ'.length → (∀ (j : Nat) v, j ∉ us' → σ15[j]? = some (some v) → σ'[j]? = some (some v)) → Nx1 H' →
          ∃ m, m < k ∧ ∃ j H', Inv X pins (wipe σ8 us) H' s' ∧ tn1 j s'.heap ∧ (∀ b ∈ fp1, H' b = none) ∧ W1 j m H' := fun {s' σ' H'} I' hl hk nx => by
        obtain ⟨m', hm, w'⟩ := hNx1 H' nx
        have pin' : ∀ b ∈ fp1, ∀ o, s14.heap.get? b = some o → s'.heap.get? b = some o ∧ H' b = none := fun b hb o e =>
          let z := I'.pin (b, o) (List.mem_append_right _ (List.mem_append_right _ (mem_pinsAt hb e)))
          ⟨z.1, z.2.1⟩
        refine ⟨m', hm, j + 1, H', I'.unpinned.weak (by rw [← hw15, wipe_length]; exact hl) (fun j v e => ?_), T1.keep _ _ _ st14 fun b hb o e => (pin' b hb o e).1, fun b hb => ?_, w'⟩
        · rw [← hw15] at e
          obtain ⟨e1, e2⟩ := wipe_some e
          exact hk j v (fun z => e2 (hu j z)) e1
        · obtain ⟨o, e, _⟩ := T1.obj _ _ st14 b hb
          exact (pin' b hb o e).2
      cases b1 with
      | false =>
        simp only [Bool.false_eq_true, if_false] at q16 ⊢
        exact fin1 I16 rfl (fun _ _ _ e => e) q16
      | true =>
        simp only [if_true] at q16 ⊢
        exact ht _ s16 σ15 H16 _ _ _ I16 q16 fun s' σ' H' I' hl hk nx => fin1 I' hl hk nx
  exact start_ok hg loop1 (T1.self X.A 0 _ _ _ st11 loop1)

/-- the outermost clause; behind its tests: tail, at the new list's address -/
def tLcN (wi : TI) (g : TG) (tt : TT) (vs : List Nat) (tail : Addr → TL) : TE := fun σ H Q => wi σ H fun J H1 => ∀ D, H1 D = none → ∃ W : Nat → Nat → Hp → Prop, (∃ m, W 0 m (upd H1 D (.lst []))) ∧ ∀ i m H, W i m H →
  (J.stop i H ∧ Q (.ref D) H) ∨ (J.go i H ∧ ∃ Nx : Hp → Prop, (∀ H', Nx H' → ∃ m', m' < m ∧ W (i + 1) m' H') ∧ ∀ x H', J.yld i H x H' → g x (wipe σ vs) H' fun σ2 H2 => wipe σ2 vs = wipe σ vs ∧ tt σ2 H2 fun b H3 =>
    if b = true then tail D σ2 H3 Nx else Nx H3)
end
section
variable {X : Cx}
theorem lcN_core {pins : List (Addr × Obj)} {s : Shared} {σ : L2.St} {H : Hp} {Q : VK} {elt tg iter i1 : Expr} {ifs : List Expr} {rest : List Comprehension} {scope : Scope} {own : List (PySem.Str × Nat)} {us' : List Nat} {pos pos' : Pos} {wi : TI} {g : TG} {tt : TT} {tail : Addr → TL} {use : Option (Value → Sem Unit)} {Qf : Value → Shared → Prop}
    (hc : X.calm = true) (hN : X.N.Nodup) (I : Inv X pins σ H s) (hi : PI X tg iter wi) (ok : BlkOk X.N X.env.scope scope own) (hv : ∀ i ∈ us', i ∈ own.map (·.2))
    (hg : ∀ (s : Shared) (H : Hp) (C : Addr) (cl : List (PySem.Str × Addr)) (fp : List Addr), PG (X.blk s H scope (compEnvC scope cl C X.env) fp) tg g) (ht : ∀ (s : Shared) (H : Hp) (C : Addr) (cl : List (PySem.Str × Addr)) (fp : List Addr), PTs (X.blk s H scope (compEnvC scope cl C X.env) fp) ifs tt)
    (hs : ∀ x, foldedSetIterable iter X.env x = pure x)
    (hr : ∀ (s : Shared) (H : Hp) (C : Addr) (cl : List (PySem.Str × Addr)) (fp : List Addr) (D : Addr), Runs (X.blk s H scope (compEnvC scope cl C X.env) fp) us' (cClause (X.blk s H scope (compEnvC scope cl C X.env) fp) elt (⟨tg, iter, ifs, 0⟩ :: rest) scope pos (0 + 1) i1 D) (tail D))
    (heq : ∀ it acc env, compTurn (.ListComp elt (⟨tg, iter, ifs, 0⟩ :: rest) scope pos) 0 it acc env = (do
      standAt iter.pos
      match ← pyNext it with
      | none => pure (.done .next)
      | some v =>
        letOwnedTupleGo tg it v
        assign tg env v
        let mut ok := true
        for c in ifs do
          if ok then ok ← isTrue c env (eval c env)
        if ok then
          let x ← eval i1 env
          standAt i1.pos
          let x ← foldedSetIterable i1 env x
          let _ ← runOwn (.compStart (.ListComp elt (⟨tg, iter, ifs, 0⟩ :: rest) scope pos) (0 + 1) (← holding [x] (pyIter x)) acc env) env
        again (.compLoop (.ListComp elt (⟨tg, iter, ifs, 0⟩ :: rest) scope pos) 0 it acc env)))
    (hs1 : ∀ env x, foldedSetIterable i1 env x = pure x)
    (h : tLcN wi g tt (own.map (·.2)) tail σ H Q)
    (hRR : ∀ D C s' m H', Inv X pins σ H' s' → Q (.ref D) H' → s'.heap.Ns C m → FpOk X pins H' C → compPost (model X.prog X.w) X.A X.xe use Qf (.ref D) C (.ok .next) s') :
    wpAny (model X.prog X.w) X.A (comprehension (.ListComp elt (⟨tg, iter, ifs, 0⟩ :: rest) scope pos) scope X.env pos' (newList []) false (eval iter X.env) use) Qf X.xe s := by
  have hfree : ∀ y ∈ scope.names, y.2 = .free → ∃ c, X.env.cells.lookup y.1 = some c := fun y hy e => by
    rcases ok.free y hy e with k | k
    · exact I.ok.has _ (.inl k)
    · exact I.ok.has _ (.inr k)
  refine wpAny_comprehension_free (use := use) rfl hs (closure_ok hfree) ok.kind (fun y hy e => by rw [ok.uniq y hy, e])
    (thn (hi.run pins s σ H _ I h) fun xv s1 hx => thn hx fun itv s2 h2 => ?_)
  obtain ⟨it, fp, tn, J, H2, e, I2, T, st2, f2, q⟩ := h2
  subst e
  refine wpAny_newObj_type (newEnv_comp ?_) (by show 0 ≤ sizeLine; decide)
  generalize hD : s2.heap.objs.size = D
  have hDn : H2 D = none := I2.hok.fresh (Nat.le_of_eq hD)
  obtain ⟨W, ⟨m0, w0⟩, turn⟩ := q D hDn
  generalize hs3 : ({ s2 with heap := s2.heap.push { cls := .type "list", data := .seq ([] : List Value).toArray } } : Shared) = s3
  have I3 : Inv X pins σ (upd H2 D (.lst [])) s3 := by
    rw [← hs3]
    refine I2.laid (t' := s2.toks) (fun b o e => Heap.get?_push_of_some _ e) (Nat.le_of_eq hD) ⟨Nat.zero_le _, [], 0, .nil, ?_⟩
    rw [← hD]
    exact Heap.get?_push_size _ rfl
  have h3 : s3.heap = s2.heap.push { cls := .type "list", data := .seq ([] : List Value).toArray } := by rw [← hs3]
  have sz : ∀ b ∈ fp, b < s2.heap.objs.size := fun b hb => by
    obtain ⟨o, e, _⟩ := T.obj _ _ st2 b hb
    exact Heap.lt_size e
  have f3 : ∀ b ∈ fp, FpOk X pins (upd H2 D (.lst [])) b ∧ b < s3.heap.objs.size := fun b hb => by
    have hlt := sz b hb
    refine ⟨⟨?_, (f2 b hb).2⟩, by rw [h3, Heap.size_push]; exact Nat.lt_succ_of_lt hlt⟩
    rw [upd_ne (by rw [← hD]; exact Nat.ne_of_lt hlt)]
    exact (f2 b hb).1
  have st3 : tn 0 s3.heap := T.keep _ _ _ st2 fun b _ o e => by rw [h3]; exact Heap.get?_push_of_some _ e
  have I4 := block_start I3 ok hN f3
  have pg := hg s3 (upd H2 D (.lst [])) s3.heap.objs.size (cellsFrom (s3.heap.objs.size + 1) scope.names (cloFrom X.env.cells scope.names [])) fp
  have pt := ht s3 (upd H2 D (.lst [])) s3.heap.objs.size (cellsFrom (s3.heap.objs.size + 1) scope.names (cloFrom X.env.cells scope.names [])) fp
  have pr := hr s3 (upd H2 D (.lst [])) s3.heap.objs.size (cellsFrom (s3.heap.objs.size + 1) scope.names (cloFrom X.env.cells scope.names [])) fp D
  show codeAny _ _ (.compStart (.ListComp elt (⟨tg, iter, ifs, 0⟩ :: rest) scope pos) 0 (.ref it) (.ref D) (compEnvC scope (cellsFrom (s3.heap.objs.size + 1) scope.names (cloFrom X.env.cells scope.names [])) s3.heap.objs.size X.env)) (compPost (model X.prog X.w) X.A X.xe use Qf (.ref D) s3.heap.objs.size) { s3 with heap := pushCells (s3.heap.push { cls := .type "dict", data := .dict #[] }) scope.names }
  have nfp : ∀ b ∈ fp, (upd H2 D (.lst [])) b = none := fun b hb => (f3 b hb).1.1
  generalize hce : compEnvC scope (cellsFrom (s3.heap.objs.size + 1) scope.names (cloFrom X.env.cells scope.names [])) s3.heap.objs.size X.env = ce at I4 pg pt pr ⊢
  have cL : ce.locals = s3.heap.objs.size := by subst hce; rfl
  generalize hH3 : upd H2 D (.lst []) = H3 at I3 I4 pg pt pr w0 nfp f3
  generalize hs4 : ({ s3 with heap := pushCells (s3.heap.push { cls := .type "dict", data := .dict #[] }) scope.names } : Shared) = s4 at I4 ⊢
  have st4 : tn 0 s4.heap := T.keep _ _ _ st3 fun b _ o e => by rw [← hs4]; exact pushCells_keeps _ _ _ _ (Heap.get?_push_of_some _ e)
  have stat : ∀ {σ' : L2.St} {H' : Hp} {s' : Shared}, Inv (X.blk s3 H3 scope ce fp) [] σ' H' s' → (∀ b ∈ fp, H' b = none) → ∀ b ∈ fp, FpOk (X.blk s3 H3 scope ce fp) [] H' b := fun {σ' H' s'} I' hn b hb =>
    ⟨hn b hb, (I'.ok.exf b hb).1, I'.ok.exfs b hb, .inl hb, fun x c e => (I'.ok.exf b hb).2 x c e, fun p hp => absurd (show p ∈ ([] : List (Addr × Obj)) ++ [] from hp) (by simp)⟩
  have loop : codeAny (model X.prog X.w) X.A (.compLoop (.ListComp elt (⟨tg, iter, ifs, 0⟩ :: rest) scope pos) 0 (.ref it) (.ref D) ce) (compPost (model X.prog X.w) X.A X.xe use Qf (.ref D) s3.heap.objs.size) s4 := by
    refine loop_out heq (hs1 ce) (fun n s' => ∃ i H', Inv (X.blk s3 H3 scope ce fp) [] (wipe σ (own.map (·.2))) H' s' ∧ tn i s'.heap ∧ (∀ b ∈ fp, H' b = none) ∧ W i n H') ?_ m0 ⟨0, H3, I4, st4, nfp, w0⟩
    rintro n s5 ⟨i, H5, I5, st5, n5, w5⟩
    rcases turn i n H5 w5 with ⟨stop, qq⟩ | ⟨go, Nx, hNx, step⟩
    · have td := T.done (X.blk s3 H3 scope ce fp) rfl rfl rfl hc i [] s5 _ H5 (fun _ _ => False) I5 (stat I5 n5) st5 stop
      refine thnF td fun r s6 ⟨hr, I6⟩ => ?_
      subst hr
      have I7 : Inv X pins σ H5 s6 := I3.call' (ch := fp) I6.os I6.base I6.hok I6.bare fun b hb => ⟨(f3 b hb).1.2.2.2.1, (f3 b hb).1.2.1, (f3 b hb).1.2.2.2.2.1, (f3 b hb).1.2.2.2.2.2⟩
      have nC : H5 s3.heap.objs.size = none := by
        have z : H5 ce.locals = none := I6.free
        rw [cL] at z
        exact z
      obtain ⟨m, hn, _⟩ := I6.loc
      have hn : s6.heap.Ns ce.locals m := hn
      rw [cL] at hn
      exact hRR D s3.heap.objs.size s6 m H5 I7 qq hn (I3.fpOk (Nat.le_refl _) nC)
    · have ti := T.item (X.blk s3 H3 scope ce fp) rfl rfl rfl hc i [] s5 _ H5 (fun _ _ => False) I5 (stat I5 n5) st5 go
      refine thnF ti fun r s6 ⟨u, hr, h6⟩ => ?_
      subst hr
      refine thnF h6 fun _ s7 ⟨x, H7, I7, r7, y7, st7, n7⟩ => ?_
      have I7' := I7.pinned (stat I7 n7) (T.obj _ _ st7)
      refine thnF (pg.run _ s7 _ H7 x u _ I7' r7 (step x H7 y7)) fun _ s8 ⟨σ8, H8, I8, hw8, q8⟩ => ?_
      refine thnF (pt.run _ s8 σ8 H8 _ I8 q8) fun b s9 ⟨H9, I9, q9⟩ => ?_
      have fin : ∀ {σ9 : L2.St} {s' : Shared} {H' : Hp}, Inv (X.blk s3 H3 scope ce fp) ([] ++ pinsAt fp s7.heap) σ9 H' s' → (wipe σ (own.map (·.2))).length = σ9.length → (∀ (j : Nat) v, (wipe σ (own.map (·.2)))[j]? = some (some v) → σ9[j]? = some (some v)) → Nx H' →
          ∃ m, m < n ∧ ∃ i H', Inv (X.blk s3 H3 scope ce fp) [] (wipe σ (own.map (·.2))) H' s' ∧ tn i s'.heap ∧ (∀ b ∈ fp, H' b = none) ∧ W i m H' := fun {σ9 s' H'} I' hl hk nx => by
        obtain ⟨m', hm, w'⟩ := hNx H' nx
        have pin' : ∀ b ∈ fp, ∀ o, s7.heap.get? b = some o → s'.heap.get? b = some o ∧ H' b = none := fun b hb o e =>
          let z := I'.pin (b, o) (List.mem_append_right _ (List.mem_append_right _ (mem_pinsAt hb e)))
          ⟨z.1, z.2.1⟩
        refine ⟨m', hm, i + 1, H', (I'.unpinned (pins := [])).weak hl hk, T.keep _ _ _ st7 fun b hb o e => (pin' b hb o e).1, fun b hb => ?_, w'⟩
        obtain ⟨o, e, _⟩ := T.obj _ _ st7 b hb
        exact (pin' b hb o e).2
      have hl8 : (wipe σ (own.map (·.2))).length = σ8.length := by rw [← hw8, wipe_length]
      have hk8 : ∀ (j : Nat) v, (wipe σ (own.map (·.2)))[j]? = some (some v) → σ8[j]? = some (some v) := fun j v e => by
        rw [← hw8] at e
        exact (wipe_some e).1
      cases b with
      | false =>
        simp only [Bool.false_eq_true, if_false] at q9 ⊢
        exact fin I9 hl8 hk8 q9
      | true =>
        simp only [if_true] at q9 ⊢
        refine pr _ s9 σ8 H9 _ _ _ I9 q9 fun s' σ' H' I' hl hk nx => fin I' (hl8.trans hl) (fun j v e => ?_) nx
        rw [← hw8] at e
        obtain ⟨e1, e2⟩ := wipe_some e
        exact hk j v (fun z => e2 (hv j z)) e1
  exact codeAny_compStart_list loop (T.self X.A 0 _ _ _ st4 loop)

/-- y = [elt for t0 in i0 .. for t3 in i3 ..] -/
theorem ps_setLc4 {i : Nat} {y : PySem.Str} {py : Pos} {elt t0 i0 t1 i1 t2 i2 t3 i3 : Expr} {f0 f1 f2 f3 : List Expr} {scope : Scope} {own : List (PySem.Str × Nat)} {u1 u2 u3 : List Nat} {pos spos : Pos} {w0 w1 w2 w3 : TI} {g0 g1 g2 g3 : TG} {tt0 tt1 tt2 tt3 : TT} {te : TE}
    (hc : X.calm = true) (hN : X.N.Nodup) (hy : X.N[i]? = some y) (hyl : X.env.scope.names.lookup y = some .local)
    (hsw : swapsWith (.ListComp elt [⟨t0, i0, f0, 0⟩, ⟨t1, i1, f1, 0⟩, ⟨t2, i2, f2, 0⟩, ⟨t3, i3, f3, 0⟩] scope pos) (some (.Name y py)) spos.line X.env = pure true)
    (ok : BlkOk X.N X.env.scope scope own) (hv1 : ∀ j ∈ u1, j ∈ own.map (·.2)) (hv2 : ∀ j ∈ u2, j ∈ u1) (hv3 : ∀ j ∈ u3, j ∈ u2)
    (hi0 : PI X t0 i0 w0)
    (hg0 : ∀ (s : Shared) (H : Hp) (C : Addr) (cl : List (PySem.Str × Addr)) (fp : List Addr), PG (X.blk s H scope (compEnvC scope cl C X.env) fp) t0 g0) (ht0 : ∀ (s : Shared) (H : Hp) (C : Addr) (cl : List (PySem.Str × Addr)) (fp : List Addr), PTs (X.blk s H scope (compEnvC scope cl C X.env) fp) f0 tt0)
    (hi1 : ∀ (s : Shared) (H : Hp) (C : Addr) (cl : List (PySem.Str × Addr)) (fp : List Addr), PI (X.blk s H scope (compEnvC scope cl C X.env) fp) t1 i1 w1)
    (hg1 : ∀ (s : Shared) (H : Hp) (C : Addr) (cl : List (PySem.Str × Addr)) (fp : List Addr), PG (X.blk s H scope (compEnvC scope cl C X.env) fp) t1 g1) (ht1 : ∀ (s : Shared) (H : Hp) (C : Addr) (cl : List (PySem.Str × Addr)) (fp : List Addr), PTs (X.blk s H scope (compEnvC scope cl C X.env) fp) f1 tt1)
    (hi2 : ∀ (s : Shared) (H : Hp) (C : Addr) (cl : List (PySem.Str × Addr)) (fp : List Addr), PI (X.blk s H scope (compEnvC scope cl C X.env) fp) t2 i2 w2)
    (hg2 : ∀ (s : Shared) (H : Hp) (C : Addr) (cl : List (PySem.Str × Addr)) (fp : List Addr), PG (X.blk s H scope (compEnvC scope cl C X.env) fp) t2 g2) (ht2 : ∀ (s : Shared) (H : Hp) (C : Addr) (cl : List (PySem.Str × Addr)) (fp : List Addr), PTs (X.blk s H scope (compEnvC scope cl C X.env) fp) f2 tt2)
    (hi3 : ∀ (s : Shared) (H : Hp) (C : Addr) (cl : List (PySem.Str × Addr)) (fp : List Addr), PI (X.blk s H scope (compEnvC scope cl C X.env) fp) t3 i3 w3)
    (hg3 : ∀ (s : Shared) (H : Hp) (C : Addr) (cl : List (PySem.Str × Addr)) (fp : List Addr), PG (X.blk s H scope (compEnvC scope cl C X.env) fp) t3 g3) (ht3 : ∀ (s : Shared) (H : Hp) (C : Addr) (cl : List (PySem.Str × Addr)) (fp : List Addr), PTs (X.blk s H scope (compEnvC scope cl C X.env) fp) f3 tt3)
    (he : ∀ (s : Shared) (H : Hp) (C : Addr) (cl : List (PySem.Str × Addr)) (fp : List Addr), PE (X.blk s H scope (compEnvC scope cl C X.env) fp) elt te)
    (hs0 : ∀ x, foldedSetIterable i0 X.env x = pure x := by intro _; rfl) (hs1 : ∀ env x, foldedSetIterable i1 env x = pure x := by intro _ _; rfl) (hs2 : ∀ env x, foldedSetIterable i2 env x = pure x := by intro _ _; rfl) (hs3 : ∀ env x, foldedSetIterable i3 env x = pure x := by intro _ _; rfl) :
    PS X (.Assign [.Name y py] (.ListComp elt [⟨t0, i0, f0, 0⟩, ⟨t1, i1, f1, 0⟩, ⟨t2, i2, f2, 0⟩, ⟨t3, i3, f3, 0⟩] scope pos) spos)
      (tAsg (tLcN w0 g0 tt0 (own.map (·.2)) fun D => tClause w1 g1 tt1 u1 (tClause w2 g2 tt2 u2 (tClause w3 g3 tt3 u3 (tEmit te D)))) (gName i)) := by
  refine ⟨fun pins s σ H D I h => ?_⟩
  rw [exec_Assign_Name_used _ _ _ _ hsw]
  refine wpAny_bind (wpAny_standAt (wpAny_bind ?_))
  show wpAny _ X.A (do let _ ← comprehension (.ListComp elt [⟨t0, i0, f0, 0⟩, ⟨t1, i1, f1, 0⟩, ⟨t2, i2, f2, 0⟩, ⟨t3, i3, f3, 0⟩] scope pos) scope X.env (firstIterPos [⟨t0, i0, f0, 0⟩, ⟨t1, i1, f1, 0⟩, ⟨t2, i2, f2, 0⟩, ⟨t3, i3, f3, 0⟩] pos) (newList []) false (eval i0 X.env) (some (assign (.Name y py) X.env))) _ _ s
  have h : tLcN w0 g0 tt0 (own.map (·.2)) (fun D => tClause w1 g1 tt1 u1 (tClause w2 g2 tt2 u2 (tClause w3 g3 tt3 u3 (tEmit te D)))) σ H (fun x H1 => gName i x σ H1 D.nx) := h
  refine wpAny_bind (thn (lcN_core (Qf := fun _ s' => SP X pins D .next s') hc hN I hi0 ok hv1 hg0 ht0 hs0 (fun s H C cl fp D => ?_) (fun it acc env => turn4_0 elt t0 i0 t1 i1 f0 f1 _ _ scope pos it acc env) hs1 h fun L C s' m H' I' q hn f => ?_) fun _ s' hq => wpAny_pure (wpAny_pure hq))
  · have r3 : Runs (X.blk s H scope (compEnvC scope cl C X.env) fp) u3 (cClause (X.blk s H scope (compEnvC scope cl C X.env) fp) elt [⟨t0, i0, f0, 0⟩, ⟨t1, i1, f1, 0⟩, ⟨t2, i2, f2, 0⟩, ⟨t3, i3, f3, 0⟩] scope pos 3 i3 D) (tClause w3 g3 tt3 u3 (tEmit te D)) :=
      runs_clause (code := cEmit (X.blk s H scope (compEnvC scope cl C X.env) fp) elt D) hc rfl rfl (hi3 s H C cl fp) (hg3 s H C cl fp) (ht3 s H C cl fp) (runs_emit rfl (he s H C cl fp)) (fun j hj => absurd hj (by simp))
        (fun it R I turn n s h => loop_in (fun it acc env => turn4_3 elt t3 i3 f3 _ _ _ scope pos it acc env) I turn n h)
    have r2 : Runs (X.blk s H scope (compEnvC scope cl C X.env) fp) u2 (cClause (X.blk s H scope (compEnvC scope cl C X.env) fp) elt [⟨t0, i0, f0, 0⟩, ⟨t1, i1, f1, 0⟩, ⟨t2, i2, f2, 0⟩, ⟨t3, i3, f3, 0⟩] scope pos 2 i2 D) (tClause w2 g2 tt2 u2 (tClause w3 g3 tt3 u3 (tEmit te D))) :=
      runs_clause (code := cClause (X.blk s H scope (compEnvC scope cl C X.env) fp) elt [⟨t0, i0, f0, 0⟩, ⟨t1, i1, f1, 0⟩, ⟨t2, i2, f2, 0⟩, ⟨t3, i3, f3, 0⟩] scope pos 3 i3 D) hc rfl rfl (hi2 s H C cl fp) (hg2 s H C cl fp) (ht2 s H C cl fp) r3 hv3
        (fun it R I turn n s h => loop_out (fun it acc env => turn4_2 elt t2 i2 t3 i3 f2 f3 _ _ scope pos it acc env) (hs3 _) I turn n h)
    exact runs_clause (code := cClause (X.blk s H scope (compEnvC scope cl C X.env) fp) elt [⟨t0, i0, f0, 0⟩, ⟨t1, i1, f1, 0⟩, ⟨t2, i2, f2, 0⟩, ⟨t3, i3, f3, 0⟩] scope pos 2 i2 D) hc rfl rfl (hi1 s H C cl fp) (hg1 s H C cl fp) (ht1 s H C cl fp) r2 hv2
        (fun it R I turn n s h => loop_out (fun it acc env => turn4_1 elt t1 i1 t2 i2 f1 f2 _ _ scope pos it acc env) (hs2 _) I turn n h)
  · show wpAny _ _ (assign (.Name y py) X.env (.ref L)) _ _ _
    refine wpAny_assign_Name (store_ok2 (v := V.ref L) I' hN hy (.inl hyl) rfl (fun s2 I2 ⟨a, sb, ha⟩ => ?_) (.inr hyl))
    obtain ⟨f0, f1, f2, f3, f4, f5⟩ := f
    have haC : C ≠ a := by
      rcases ha with z | z
      · rw [z]; exact f1
      · exact fun e => f4 y a z e.symm
    refine ⟨m, hn.sameBut sb haC, fun h3 sb3 => ?_⟩
    exact ⟨_, H', I2.turned (t' := s2.toks) (fun b o hb e => (sb3.2 b hb).trans e) f0 f1 f3 f4 f5, q⟩
end
end TPC
/-! rules that the hand layer lacks -/
namespace TPW
open PySem PySem.Spec PyProof.Rows L2 TP
open C8 (Cal Def cal0 pe_c fnScope fnBody fnArgs fnScope_by pe_gc)

section
variable {X : Cx}
/-- f() -/
theorem pe_c0 {k j : Nat} {x : PySem.Str} {sp : Sp} {dvs : List V} {p pos : Pos} (c : Cal X.prog X.w X.K X.mg X.base k x sp dvs) (hr : Room j X.A) (hk : k ≤ j) (hg : Gl X x) (hdb : (x == ("__debug__" : PySem.Str)) = false := by decide) :
    PE X (.Call (.Name x p) [] [] pos) (tCall sp dvs C8.E0 tNil) := by
  obtain ⟨f, fd, ps, ds, F, hm, kp, b, d⟩ := c.ex
  exact pe_call0 F (hr.mono hk) hg hm kp b d C8.pass0 hdb
/-- isqrt(n) -/
def rIsqrt : List V → Hp → VK → Prop := fun vs H Q => ∃ a : Int, vs = [.int a] ∧ 0 ≤ a ∧ a < 2 ^ 64 ∧ Q (.int ((Float64.isqrt a.toNat : Nat) : Int)) H
theorem cr_isqrt : CallR X (.builtin "math.isqrt") rIsqrt := by
  intro pins s σ H vs us Q I r h
  obtain ⟨a, rfl, h0, h1, q⟩ := h
  obtain ⟨u, rfl, ru⟩ := vals1 r
  obtain ⟨t, rfl⟩ := ru
  exact PySem.W.mg_isqrt h0 h1 ⟨.int _, H, I.tok _, ⟨_, rfl⟩, q⟩
end

/-! ### sorted of numbers -/
def encQ (b : V × Hq) : PyData := tiD (ql b.2)
theorem dataLt_ti (ns ms : List Int) : PySem.W.dataLt (tiD ns) (tiD ms) = decide (ns < ms) := PySem.W.dataLt_ints ns ms
theorem tiD_depth1 (ns : List Int) : (tiD ns).depth = 1 := by
  have h := tiD_depth ns
  unfold tiD
  rw [PyData.depth, h]
theorem alike_ti (ns ms : List Int) : PySem.W.alike (tiD ns) (tiD ms) = true := by
  unfold tiD
  rw [PySem.W.alike]
  exact PySem.W.alike_ints ns ms
section
variable {X : Cx} {pins : List (Addr × Obj)} {σ : L2.St} {H : Hp} {s : Shared}
theorem each_rel : ∀ {bs : List (V × Hq)} {us : List Value}, Vals (bs.map (·.1)) us → PySem.W.EachIs (fun v (b : V × Hq) => RelV b.1 v) us bs
  | [], _, .nil => .nil
  | b :: r, _, .cons h t => .cons h (each_rel t)
theorem each_reads (I : Inv X pins σ H s) : ∀ {bs : List (V × Hq)} {us : List Value}, (∀ b ∈ bs, IsQ X.K b.1 b.2 H) → Vals (bs.map (·.1)) us → PySem.W.EachIs (fun v (b : V × Hq) => ∃ as, Reads s.heap v (encQ b) as) us bs
  | [], _, _, .nil => .nil
  | b :: r, _, h, .cons e t => .cons (Dp.reads I _ _ _ (dp_ti (h b (List.mem_cons_self ..))) e) (each_reads I (fun c hc => h c (List.mem_cons_of_mem _ hc)) t)
theorem vals_of_each : ∀ {bs : List (V × Hq)} {us : List Value}, PySem.W.EachIs (fun v (b : V × Hq) => RelV b.1 v) us bs → Vals (bs.map (·.1)) us
  | _, _, .nil => .nil
  | _, _, .cons h t => .cons h (vals_of_each t)
def leQ (rev : Bool) : V × Hq → V × Hq → Bool := fun x y => cond rev (!decide (ql x.2 < ql y.2)) (!decide (ql y.2 < ql x.2))
theorem dataLe_q (rev : Bool) : PySem.W.dataLe rev encQ = leQ rev := by
  rw [PySem.W.dataLe_eq]
  funext a b
  unfold encQ leQ
  rw [dataLt_ti, dataLt_ti]
theorem ilt_trans {a b c : List Int} (h1 : a < b) (h2 : b < c) : a < c := List.lt_trans h1 h2
theorem leQ_iff {rev : Bool} {x y : V × Hq} : leQ rev x y = true ↔ ¬ (cond rev (ql x.2 < ql y.2) (ql y.2 < ql x.2)) := by
  unfold leQ
  cases rev <;> simp
theorem ilt_or {a b : List Int} (h : ¬ a < b) : b ≤ a := h
theorem leQ_trans (rev : Bool) (x y z : V × Hq) (h1 : leQ rev x y = true) (h2 : leQ rev y z = true) : leQ rev x z = true := by
  rw [leQ_iff] at *
  cases rev with
  | false =>
    have a : ql x.2 ≤ ql y.2 := h1
    have b : ql y.2 ≤ ql z.2 := h2
    exact List.le_trans a b
  | true =>
    have a : ql y.2 ≤ ql x.2 := h1
    have b : ql z.2 ≤ ql y.2 := h2
    exact List.le_trans b a
theorem leQ_total (rev : Bool) (x y : V × Hq) : (leQ rev x y || leQ rev y x) = true := by
  rw [Bool.or_eq_true, leQ_iff, leQ_iff]
  rcases List.le_total (ql x.2) (ql y.2) with h | h <;> cases rev
  · exact .inl h
  · exact .inr h
  · exact .inr h
  · exact .inl h
def rSortQ (K : PySem.W.Frag) (rev : Bool) (zs0 : List V) : List V → List V → Hp → VK → Prop := fun vs zs H Q => ∃ (a : Addr) (bs : List (V × Hq)), vs = [V.ref a] ∧ zs = zs0 ∧ SqL K H a (bs.map (·.1)) ∧ (∀ b ∈ bs, IsQ K b.1 b.2 H) ∧
  ∀ (cs : List (V × Hq)) (p : Addr), cs.Perm bs → cs.Pairwise (fun x y => ¬ (cond rev (ql x.2 < ql y.2) (ql y.2 < ql x.2))) → H p = none → Q (.ref p) (upd H p (.lst (cs.map (·.1))))
theorem sort_laid (I : Inv X pins σ H s) {rev : Bool} {bs : List (V × Hq)} {its out : List Value} {Q : VK} (hz : (bs.map (·.1)).length ≤ sizeLine) (e : PySem.W.EachIs (fun v (b : V × Hq) => RelV b.1 v) out (bs.mergeSort (PySem.W.dataLe rev encQ)))
    (q : ∀ (cs : List (V × Hq)) (p : Addr), cs.Perm bs → cs.Pairwise (fun x y => ¬ (cond rev (ql x.2 < ql y.2) (ql y.2 < ql x.2))) → H p = none → Q (.ref p) (upd H p (.lst (cs.map (·.1))))) :
    EP X pins σ Q (.ref (s.heap.objs.size + 1)) { s with heap := sortedAll s.heap its (List.toArray out) } := by
  rw [dataLe_q] at e
  obtain ⟨ep, he'⟩ := PyProof.Rows.sortedAll_at s.heap its (List.toArray out)
  have hp := List.mergeSort_perm bs (leQ rev)
  have hs := List.pairwise_mergeSort (leQ_trans rev) (leQ_total rev) bs
  refine ⟨.ref _, upd H (s.heap.objs.size + 1) (.lst ((bs.mergeSort (leQ rev)).map (·.1))), I.laid (t' := s.toks) (fun _ _ => PyProof.Rows.sortedAll_old) (Nat.le_succ _) ⟨?_, _, ep, vals_of_each e, he'⟩, rfl, q _ _ hp (hs.imp fun h => leQ_iff.mp h) (I.hok.fresh (Nat.le_succ _))⟩
  rw [List.length_map, hp.length_eq]
  rw [List.length_map] at hz
  exact hz
end
section
variable {X : Cx}
theorem cr_sortQ (hu : X.A.units + 64 < cLine) : CallR X (.builtin "sorted") (fun vs H Q => rSortQ X.K false [] vs [] H Q) := by
  intro pins s σ H vs us Q I r h
  obtain ⟨a, bs, rfl, _, hs, hb, q⟩ := h
  obtain rfl := Vals.ref1 r
  obtain ⟨its, rv, hl, hz⟩ := I.list hs
  refine PySem.W.sorted_data (enc := encQ) hl.isList (each_rel rv) (each_reads I hb rv) (PySem.W.AllAlike.of fun _ _ => alike_ti _ _) (PySem.W.Sortable.tuples fun b => ⟨_, _, rfl⟩) (by rw [List.length_map] at hz; exact hz) (fun b _ => ?_) (fun out _ e => sort_laid I hz e q)
  unfold encQ
  rw [tiD_depth1]
  omega
theorem cr_sortQR (hu : X.A.units + 64 < cLine) : CallRK X (.builtin "sorted") [PySem.Str.ofString "reverse"] (rSortQ X.K true [.bl true]) := by
  intro pins s σ H vs zs us ws Q I r rz h
  obtain ⟨a, bs, rfl, rfl, hs, hb, q⟩ := h
  obtain rfl := Vals.ref1 r
  obtain ⟨w1, rfl, e1⟩ := vals1 rz
  obtain rfl : w1 = Value.bool true := e1
  obtain ⟨its, rv, hl, hz⟩ := I.list hs
  refine PySem.W.sorted_rev_data (enc := encQ) hl.isList (each_rel rv) (each_reads I hb rv) (PySem.W.AllAlike.of fun _ _ => alike_ti _ _) (PySem.W.Sortable.tuples fun b => ⟨_, _, rfl⟩) (by rw [List.length_map] at hz; exact hz) (fun b _ => ?_) (fun out _ e => sort_laid I hz e q)
  unfold encQ
  rw [tiD_depth1]
  omega
end

/-! ### max of two tuples, max of a list of data -/
section
variable {prog : Program} {w : World} {A : Around} {E : Value → Shared → Prop} {s : Shared}
/-- max(a, b), a tuple of both is made -/
theorem max_two_walkH {a b : Value} {Q : Value → Shared → Prop}
    (h : wpAny (model prog w) A.in1 (pyIter (.ref s.heap.objs.size)) (fun it s₂ => ∃ I fp wr G n P St H bt, it = .ref I ∧ WalksS prog w A.in1 I fp wr G n P St ∧ St 0 s₂ ∧ (∀ b ∈ fp, b < s₂.heap.objs.size) ∧ 0 < n ∧
      (∀ b o, H.get? b = some o → b ∉ wr) ∧ (∀ b o, H.get? b = some o → s₂.heap.get? b = some o) ∧ CmpIn prog w A.in1 .Gt H P bt ∧ ∀ v s', P (argBest bt (n - 1)) v → Moved wr G s₂ s' → Q v s') E
      { s with heap := s.heap.push { cls := .type "tuple", data := .seq #[a, b] } }) :
    wpAny (model prog w) A (call (.builtin "max") [a, b]) Q E s := by
  have hname : (toString "max" ++ toString ".loop" : String) = "max.loop" := by decide
  refine call_function_tree F.kind_max F.plain_max F.entry_max (F.args_max2 _ _) ?_
  show wpAny _ A.in1 (Builtin.Builtins.bindParams "max" ["key", "default"] 0 ⟨[], []⟩ >>= _) _ _ s
  refine wpAny_bind (wpAny_of_eq (show Builtin.Builtins.bindParams "max" ["key", "default"] 0 ⟨[], []⟩ = pure [none, none] from rfl) ?_)
  show wpAny _ A.in1 (newTuple [a, b] >>= _) _ _ s
  refine wpAny_bind (wpAny_newObj_type ?_)
  refine wpAny_bind (wpAny_mono h (fun it s₂ h₂ => ?_) fun _ _ e => e)
  obtain ⟨I, fp, wr, G, n, P, St, H, bt, rfl, W, hst, hfp, hn, hw, hkeep, hcmp, hQ⟩ := h₂
  refine wpAny_bind (wpAny_newObj_type ?_)
  have hSf : s₂.heap.objs.size ∉ fp := fun hm => Nat.lt_irrefl _ (hfp _ hm)
  rw [hname]
  refine wpAny_pure ⟨plainId_quiet F.plain_max_loop _, codeAny_max_loop_firstH W H hw bt hcmp s₂.heap.objs.size hSf (fresh_in hkeep) _ hn (fun b o e => Heap.get?_push_of_some _ (hkeep b o e)) (W.frame 0 s₂ _ s₂.toks hst (Nat.le_refl _) fun b _ o e => Heap.get?_push_of_some _ e) (Heap.get?_push_size _ rfl) fun v s' hP hm => ?_⟩
  exact hQ v s' hP (Moved.drop_new (tk := s₂.toks) hm (Nat.le_refl _))
theorem argBest_two (bt : Nat → Nat → Bool) : argBest bt (2 - 1) = if bt 1 0 = true then 1 else 0 := rfl
theorem max_two_data {va vb : Value} {x y : PyData} {as : List Addr} {Q : Value → Shared → Prop} (hh : A.handled = none) (hr : ReadsAll s.heap [va, vb] [x, y] as) (ha : PySem.W.AlikeAll [x, y]) (hu : A.units + 1 + PyData.depthAll [x, y] < cLine)
    (h : ∀ h' tk, (∀ b o, s.heap.get? b = some o → h'.get? b = some o) → Q (if PySem.W.dataLt x y = true then vb else va) { s with heap := h', toks := tk }) :
    wpAny (model prog w) A (call (.builtin "max") [va, vb]) Q E s := by
  have hT : (s.heap.push { cls := .type "tuple", data := .seq #[va, vb] }).IsTuple s.heap.objs.size #[va, vb] := ⟨_, Heap.get?_push_size _ rfl, rfl, 0, rfl⟩
  refine max_two_walkH (PySem.W.iter_tupleW (A := A.in1) (s := { s with heap := s.heap.push { cls := .type "tuple", data := .seq #[va, vb] } }) hh hT fun s₂ e W st hfp hw hk => ?_)
  have hr' : ReadsAll (s.heap.push { cls := .type "tuple", data := .seq #[va, vb] }) [va, vb] [x, y] as := PyProof.Rows.ReadsAll.keeps (fun b o e => Heap.get?_push_of_some _ e) hr
  refine ⟨_, _, _, _, _, _, _, (s.heap.push { cls := .type "tuple", data := .seq #[va, vb] }), _, rfl, W, st, hfp, by show 0 < 2; decide, hw, hk, PySem.W.cmpIn_gt (A := A.in1) (s := { s with heap := s.heap.push { cls := .type "tuple", data := .seq #[va, vb] } }) hr' ha (by show A.units + 1 + _ < _; exact hu), fun v s' hP m => ?_⟩
  obtain ⟨h', tk, rfl, hk'⟩ := PySem.W.moved_old e rfl m
  have hP : #[va, vb][argBest (fun i j => PySem.W.dataLt (([x, y] : List PyData).getD j .none) (([x, y] : List PyData).getD i .none)) (2 - 1)]? = some v := hP
  rw [argBest_two] at hP
  have e2 : v = if PySem.W.dataLt x y = true then vb else va := by
    have hP2 : #[va, vb][if PySem.W.dataLt x y = true then 1 else 0]? = some v := hP
    by_cases c : PySem.W.dataLt x y = true
    · rw [if_pos c] at hP2 ⊢
      exact (Option.some.inj hP2).symm
    · rw [if_neg c] at hP2 ⊢
      exact (Option.some.inj hP2).symm
  rw [e2]
  exact h h' tk fun b o q => hk' _ _ (Heap.get?_push_of_some _ q)
/-- max of a list, with the place of what is handed back -/
theorem max_list_place {l : Addr} {vs : Array Value} {x : PyData} {xs : List PyData} {as : List Addr} {Q : Value → Shared → Prop} (hh : A.handled = none) (hl : s.heap.IsList l vs) (hr : ReadsAll s.heap vs.toList (x :: xs) as) (ha : PySem.W.AlikeAll (x :: xs)) (hu : A.units + 1 + PyData.depthAll (x :: xs) < cLine)
    (h : ∀ (i : Nat) v h' tk, vs[i]? = some v → (x :: xs).getD i .none = PySem.W.maxD x xs → i < (x :: xs).length → (∀ b o, s.heap.get? b = some o → h'.get? b = some o) → Q v { s with heap := h', toks := tk }) :
    wpAny (model prog w) A (call (.builtin "max") [.ref l]) Q E s := by
  have hn : vs.size = xs.length + 1 := PySem.W.readsAll_len hr
  refine call_max_walkH (PySem.W.iter_listW (A := A.in1) hh hl fun s₂ e W st hfp hw hk => ?_)
  refine ⟨_, _, _, _, _, _, _, s.heap, _, rfl, W, st, hfp, by omega, hw, hk, PySem.W.cmpIn_gt (A := A.in1) hr ha (by show A.units + 1 + _ < _; exact hu), fun v s' hP m => ?_⟩
  obtain ⟨h', tk, rfl, hk'⟩ := PySem.W.moved_old e rfl m
  have e1 : vs.size - 1 = xs.length := by omega
  have e2 := PySem.W.argBest_fold (fun a b => PySem.W.dataLt b a) PyData.none x xs xs.length (Nat.le_refl _)
  rw [List.take_length] at e2
  rw [e1] at hP
  refine h _ v h' tk hP ?_ (by rw [List.length_cons]; exact Nat.lt_succ_of_le e2.1) hk'
  unfold PySem.W.maxD
  exact e2.2
end
section
variable {X : Cx}
/-- max(x, y) of two numbers -/
def rMax2Q (K : PySem.W.Frag) : List V → Hp → VK → Prop := fun vs H Q => ∃ x y p q, vs = [x, y] ∧ IsQ K x p H ∧ IsQ K y q H ∧ Q (if ql p < ql q then y else x) H
theorem call_max2Q (hc : X.calm = true) (hu : X.A.units + 64 < cLine) : CallR X (.builtin "max") (rMax2Q X.K) := by
  intro pins s σ H vs us Q I r h
  obtain ⟨x, y, p, q, rfl, hx, hy, k⟩ := h
  obtain ⟨u1, u2, rfl, r1, r2⟩ := vals2 r
  obtain ⟨as, h1⟩ := Dp.reads I _ _ _ (dp_ti hx) r1
  obtain ⟨bs, h2⟩ := Dp.reads I _ _ _ (dp_ti hy) r2
  have hd : PyData.depthAll [tiD (ql p), tiD (ql q)] = 1 := by
    simp [PyData.depthAll, tiD_depth1]
  refine max_two_data (I.ok.hd hc) (.cons h1 (.cons h2 .nil)) ⟨fun a ha b hb => ?_, fun a ha => ?_⟩ (by rw [hd]; omega) fun h' tk hk => ?_
  · obtain ⟨n1, rfl⟩ : ∃ n1, a = tiD n1 := by
      rcases List.mem_cons.mp ha with rfl | ha
      · exact ⟨_, rfl⟩
      · rcases List.mem_cons.mp ha with rfl | ha
        · exact ⟨_, rfl⟩
        · cases ha
    obtain ⟨n2, rfl⟩ : ∃ n2, b = tiD n2 := by
      rcases List.mem_cons.mp hb with rfl | hb
      · exact ⟨_, rfl⟩
      · rcases List.mem_cons.mp hb with rfl | hb
        · exact ⟨_, rfl⟩
        · cases hb
    exact alike_ti _ _
  · rcases List.mem_cons.mp ha with rfl | ha
    · intro z; cases z
    · rcases List.mem_cons.mp ha with rfl | ha
      · intro z; cases z
      · cases ha
  · rw [dataLt_ti]
    refine ⟨if ql p < ql q then y else x, H, I.kept hk, ?_, k⟩
    by_cases c : ql p < ql q
    · simp only [decide_eq_true c, if_pos c, if_true]
      exact r2
    · simp only [decide_eq_false c, if_neg c, Bool.false_eq_true, if_false]
      exact r1
end

section
variable {X : Cx}
/-- xs.index(t), a list of tuples of ints -/
def rIndexT (K : PySem.W.Frag) : V → List V → Hp → VK → Prop := fun x xs H Q => ∃ y ns nss j, xs = [y] ∧ IsLT K x nss H ∧ IsTI K y ns H ∧ nss[j]? = some ns ∧ (∀ m, m < j → nss[m]? ≠ some ns) ∧ Q (.int (j : Nat)) H
theorem mt_indexT (hu : X.A.units + 65 < cLine) : MtR X "list.index" (rIndexT X.K) := by
  intro pins s σ H x xs v us Q I rx rs h
  obtain ⟨y, ns, nss, j, rfl, ⟨a, vs, rfl, h1, h2⟩, h3, h4, h5, q⟩ := h
  refine mt_indexD hu pins s σ H _ _ v us Q I rx rs ⟨a, y, tiD ns, nss.map tiD, j, tiD ns, rfl, rfl, .lst h1 (dp_lt h2), dp_ti h3, ltD_shaped _, tiD_shaped _, ?_, ?_, ?_, q⟩
  · rw [List.getElem?_map, h4]; rfl
  · rw [tiD_eq]; simp
  · intro m z hm e
    rw [List.getElem?_map] at e
    obtain ⟨ms, em, rfl⟩ := Option.map_eq_some_iff.mp e
    rw [tiD_eq]
    exact decide_eq_false fun z => h5 m hm (by rw [em, z])
end

/-! ### comprehensions by relations -/
section
variable {α β : Type} {K : PySem.W.Frag} {H H1 : Hp} {D : Addr}
theorem Paired.get {R : α → β → Prop} : ∀ {xs : List α} {ys : List β} {i : Nat} {x : α}, Paired R xs ys → xs[i]? = some x → ∃ y, ys[i]? = some y ∧ R x y
  | _, _, _, _, .nil, e => by simp at e
  | _, _, 0, _, .cons r _, e => by simp at e; subst e; exact ⟨_, rfl, r⟩
  | _, _, i + 1, x, .cons _ t, e => by
    obtain ⟨u, h1, h2⟩ := Paired.get (i := i) (x := x) t (by simpa using e)
    exact ⟨u, by simpa using h1, h2⟩
theorem Paired.of {R : α → β → Prop} : ∀ {xs : List α} {ys : List β}, xs.length = ys.length → (∀ (i : Nat) (x : α) (y : β), xs[i]? = some x → ys[i]? = some y → R x y) → Paired R xs ys
  | [], [], _, _ => .nil
  | [], _ :: _, h, _ => by simp at h
  | _ :: _, [], h, _ => by simp at h
  | x :: xs, y :: ys, h, k => .cons (k 0 x y rfl rfl) (Paired.of (by simpa using h) fun i a b ea eb => k (i + 1) a b (by simpa using ea) (by simpa using eb))
theorem Paired.snoc {R : α → β → Prop} {x : α} {y : β} (r : R x y) : ∀ {xs : List α} {ys : List β}, Paired R xs ys → Paired R (xs ++ [x]) (ys ++ [y])
  | _, _, .nil => .cons r .nil
  | _, _, .cons h t => .cons h (Paired.snoc r t)
theorem Paired.app {R : α → β → Prop} : ∀ {xs xs' : List α} {ys ys' : List β}, Paired R xs ys → Paired R xs' ys' → Paired R (xs ++ xs') (ys ++ ys')
  | _, _, _, _, .nil, r => r
  | _, _, _, _, .cons h t, r => .cons h (Paired.app t r)
/-- a list of numbers, item by item -/
theorem lt_pairs {qs : List Hq} : ∀ {vs : List V} {qs : List Hq}, Paired (fun u ns => IsTI K u ns H) vs (qs.map ql) → ∃ bs : List (V × Hq), bs.map (·.1) = vs ∧ bs.map (·.2) = qs ∧ ∀ b ∈ bs, IsQ K b.1 b.2 H
  | [], [], _ => ⟨[], rfl, rfl, fun _ h => by cases h⟩
  | [], _ :: _, h => by cases h
  | _ :: _, [], h => by cases h
  | v :: vs, q :: qs, h => by
    cases h with
    | cons r t =>
      obtain ⟨bs, h1, h2, h3⟩ := lt_pairs (qs := qs) t
      refine ⟨(v, q) :: bs, by simp [h1], by simp [h2], fun b hb => ?_⟩
      rcases List.mem_cons.mp hb with rfl | hb
      · exact r
      · exact h3 b hb
theorem pairs_lt : ∀ {bs : List (V × Hq)}, (∀ b ∈ bs, IsQ K b.1 b.2 H) → Paired (fun u ns => IsTI K u ns H) (bs.map (·.1)) ((bs.map (·.2)).map ql)
  | [], _ => .nil
  | b :: bs, h => .cons (h b (List.mem_cons_self ..)) (pairs_lt fun c hc => h c (List.mem_cons_of_mem _ hc))
end
section
variable {α β : Type} {K : PySem.W.Frag} {J : It} {G : Hp → Prop} {te : TE} {σ : L2.St} {H1 : Hp} {D : Addr} {Qd : Hp → Prop} {i : Nat} {xs : List α} {vs : List V}
theorem lc_rel (w : Walk J vs.length G (YAt vs)) (hG : ∀ H, Same H1 H → G H) (Rel : V → α → Hp → Prop) (mRel : ∀ u x H H', Same H H' → Rel u x H → Rel u x H') (h1 : Paired (fun u x => Rel u x H1) vs xs)
    (R2 : V → β → Hp → Prop) (mR2 : ∀ y b, Mono (R2 y b)) (f : α → β) (nD : H1 D = none) (hn : vs.length < sizeLine)
    (hs : ∀ u x H (Qk : VK), x ∈ xs → Same H1 H → Rel u x H → (∀ y H4, Same H H4 → R2 y (f x) H4 → Qk y H4) → te ((wipe σ [i]).set i (some u)) H Qk)
    (hd : ∀ H ys, Same H1 H → H D = some (.lst ys) → Paired (fun y b => R2 y b H) ys (xs.map f) → Qd H) :
    ∃ W : Nat → Nat → Hp → Prop, (∃ m, W 0 m (upd H1 D (.lst []))) ∧ ∀ j m H, W j m H →
      (J.stop j H ∧ Qd H) ∨ (J.go j H ∧ ∃ Nx : Hp → Prop, (∀ H', Nx H' → ∃ m', m' < m ∧ W (j + 1) m' H') ∧ ∀ x H', J.yld j H x H' → gName i x (wipe σ [i]) H' fun σ2 H2 => wipe σ2 [i] = wipe σ [i] ∧ tYes σ2 H2 fun b H3 =>
        if b = true then te σ2 H3 fun y H4 => ∃ acc, H4 D = some (.lst acc) ∧ acc.length < sizeLine ∧ Nx (upd H4 D (.lst (acc ++ [y]))) else Nx H3) := by
  refine lc_map w nD hn (fun j y H => ∃ x, xs[j]? = some x ∧ R2 y (f x) H) (fun j y => Mono.ex fun x => Mono.pure.and (mR2 _ _)) hG (fun j u H H' hj s hy => ?_) (fun H ys s e el hR => ?_) gm_name
  · obtain ⟨rfl, e⟩ := hy
    obtain ⟨x, ex, r⟩ := Paired.get h1 e
    refine ⟨?_, fun Qk k => hs u x _ Qk (List.mem_of_getElem? ex) s (mRel _ _ _ _ s r) fun y H4 s4 r4 => k y H4 s4 ⟨x, ex, r4⟩⟩
    simp only [wipe]
    rw [List.set_set, List.set_set]
  · refine hd H ys s e (Paired.of (by rw [el, List.length_map]; exact h1.length) fun j y b ey eb => ?_)
    obtain ⟨x, ex, r⟩ := hR j y ey
    rw [List.getElem?_map, ex] at eb
    cases eb
    exact r
end

/-! ### a clause over a written tuple of ints: what the tail adds, item by item -/
section
variable {K : PySem.W.Frag} {D : Addr} {H0 H : Hp}
/-- the list at D holds tuples of these ints -/
def Acc (K : PySem.W.Frag) (D : Addr) (H0 : Hp) (L : List (List Int)) (H : Hp) : Prop := Same H0 H ∧ ∃ ys, H D = some (.lst ys) ∧ Paired (fun u ns => IsTI K u ns H) ys L
theorem Acc.same {L : List (List Int)} {H' : Hp} (h : Acc K D H0 L H) (s : Same H H') : Acc K D H0 L H' := by
  obtain ⟨s0, ys, e, p⟩ := h
  exact ⟨s0.trans s, ys, s _ _ e, Paired.mapP p fun _ _ z => z.same s⟩
theorem Acc.push {L : List (List Int)} {ys : List V} {y : V} {ns : List Int} (n : H0 D = none) (h : Acc K D H0 L H) (e : H D = some (.lst ys)) (r : IsTI K y ns H) : Acc K D H0 (L ++ [ns]) (upd H D (.lst (ys ++ [y]))) := by
  obtain ⟨s0, ys', e', p⟩ := h
  rw [e] at e'
  cases e'
  refine ⟨same_upd s0 n, _, upd_same, ?_⟩
  have p2 : Paired (fun u ns => IsTI K u ns (upd H D (.lst (ys ++ [y])))) ys L := Paired.mapP p fun u m (z : IsTI K u m H) => IsTI.put e z
  exact Paired.snoc (R := fun u ns => IsTI K u ns (upd H D (.lst (ys ++ [y])))) (IsTI.put e r) p2
theorem emit_acc {te : TE} {σ : L2.St} {L : List (List Int)} {ns : List Int} {Nx : Hp → Prop} (n : H0 D = none) (h : Acc K D H0 L H) (hz : L.length < sizeLine) (ht : ∀ Qk : VK, (∀ y H4, Same H H4 → IsTI K y ns H4 → Qk y H4) → te σ H Qk) (k : ∀ H', Acc K D H0 (L ++ [ns]) H' → Nx H') : TPC.tEmit te D σ H Nx := by
  refine ht _ fun y H4 s4 r => ?_
  have h4 := h.same s4
  obtain ⟨_, ys, e, p⟩ := id h4
  exact ⟨ys, e, by rw [p.length]; exact hz, k _ (h4.push n e r)⟩
/-- the heap without D -/
def less1 (H : Hp) (D : Addr) : Hp := fun b => if b = D then none else H b
theorem less1_none : less1 H D D = none := by unfold less1; rw [if_pos rfl]
theorem less1_same : Same (less1 H D) H := fun b o e => by
  unfold less1 at e
  split at e
  · cases e
  · exact e
theorem same_less1 {H' : Hp} (s : Same H H') (n : H D = none) : Same H (less1 H' D) := fun b o e => by
  unfold less1
  rw [if_neg (ne_of_none e n)]
  exact s _ _ e
theorem SqT.less1 {a : Addr} {xs zs : List V} (hD : H D = some (.lst zs)) (h : SqT K H a xs) : SqT K (less1 H D) a xs := by
  rcases h with (h | ⟨o, h⟩) | h
  · refine .inl (.inl ?_)
    unfold TPW.less1
    rw [if_neg (ne_of h hD (by intro z; cases z))]
    exact h
  · refine .inl (.inr ⟨o, ?_⟩)
    unfold TPW.less1
    rw [if_neg (ne_of h hD (by intro z; cases z))]
    exact h
  · exact .inr h
/-- one clause -/
theorem clause_acc {tl : TE} {σ : L2.St} {L : List (List Int)} {i : Nat} {vs : List Nat} {cs : List Int} {tail : TPC.TL} {Nx : Hp → Prop} (f : Int → List (List Int)) (n : H0 D = none) (h : Acc K D H0 L H)
    (hi : ∀ R : V → Hp → Prop, (∀ a H', Same H H' → SqT K H' a (cs.map V.int) → R (.ref a) H') → tl σ H R) (hw : ∀ c, wipe ((wipe σ vs).set i (some (.int c))) vs = wipe σ vs)
    (ht : ∀ B c L' H' Nx', B D = none → c ∈ cs → L'.length ≤ L.length + (cs.flatMap f).length → Acc K D B L' H' → (∀ H'', Acc K D B (L' ++ f c) H'' → Nx' H'') → tail ((wipe σ vs).set i (some (.int c))) H' Nx') (k : ∀ H', Acc K D H0 (L ++ cs.flatMap f) H' → Nx H') :
    TPC.tClause (iTup K tl) (gName i) tYes vs tail σ H Nx := by
  refine hi _ fun a H1 s1 hS => ?_
  have hA1 := h.same s1
  obtain ⟨sA, ysA, eA, pA⟩ := id hA1
  have nB : less1 H1 D D = none := less1_none
  have hB : Acc K D (less1 H1 D) L H1 := ⟨less1_same, ysA, eA, pA⟩
  have hSB : SqT K (less1 H1 D) a (cs.map V.int) := SqT.less1 eA hS
  have sB : Same H0 (less1 H1 D) := same_less1 sA n
  refine ⟨a, rfl, ⟨_, hS⟩, fun j m H' => m = cs.length - j ∧ j ≤ cs.length ∧ Acc K D (less1 H1 D) (L ++ (cs.take j).flatMap f) H', ⟨cs.length, by simp, Nat.zero_le _, by simpa using hB⟩, ?_⟩
  rintro j m H' ⟨rfl, hj, hA⟩
  have hS' : SqT K H' a (cs.map V.int) := SqT.same hA.1 hSB
  by_cases hlt : j < cs.length
  · have ec : cs[j]? = some cs[j] := List.getElem?_eq_getElem hlt
    refine .inr ⟨⟨_, _, hS', by rw [List.getElem?_map, ec]; rfl⟩, fun H'' => Acc K D (less1 H1 D) (L ++ (cs.take (j + 1)).flatMap f) H'', fun H'' h'' => ⟨cs.length - (j + 1), by omega, rfl, hlt, h''⟩, fun x H'' y => ?_⟩
    obtain ⟨rfl, y⟩ := y
    have e := y _ hS'
    rw [List.getElem?_map, ec] at e
    cases e
    refine ⟨hw _, ?_⟩
    simp only [tYes, if_true]
    have et : (cs.take (j + 1)).flatMap f = (cs.take j).flatMap f ++ f cs[j] := by
      rw [List.take_add_one, ec, List.flatMap_append]
      exact congrArg (fun z => (cs.take j).flatMap f ++ z) (List.append_nil _)
    refine ht (less1 H1 D) cs[j] _ _ _ nB (List.getElem_mem hlt) ?_ hA fun H3 h3 => ?_
    · rw [List.length_append]
      have : ((cs.take j).flatMap f).length ≤ (cs.flatMap f).length := by
        have e2 : cs.flatMap f = (cs.take j).flatMap f ++ (cs.drop j).flatMap f := by rw [← List.flatMap_append, List.take_append_drop]
        rw [e2, List.length_append]; omega
      omega
    · rw [et, ← List.append_assoc]
      exact h3
  · have ej : j = cs.length := by omega
    subst ej
    rw [List.take_length] at hA
    refine .inl ⟨⟨_, hS', by rw [List.length_map]; exact Nat.le_refl _⟩, k _ ?_⟩
    exact ⟨sB.trans hA.1, hA.2⟩
end

section
variable {K : PySem.W.Frag} {H : Hp}
/-- the outermost clause of several -/
theorem lcN_acc {tl : TE} {σ : L2.St} {i : Nat} {vs : List Nat} {cs : List Int} {tail : Addr → TPC.TL} {Q : VK} (f : Int → List (List Int))
    (hi : ∀ R : V → Hp → Prop, (∀ a H', Same H H' → SqT K H' a (cs.map V.int) → R (.ref a) H') → tl σ H R) (hw : ∀ c, wipe ((wipe σ vs).set i (some (.int c))) vs = wipe σ vs)
    (ht : ∀ D B c L' H' Nx', B D = none → c ∈ cs → L'.length ≤ (cs.flatMap f).length → Acc K D B L' H' → (∀ H'', Acc K D B (L' ++ f c) H'' → Nx' H'') → tail D ((wipe σ vs).set i (some (.int c))) H' Nx')
    (k : ∀ D H1 H', Same H H1 → H1 D = none → Acc K D H1 (cs.flatMap f) H' → Q (.ref D) H') :
    TPC.tLcN (iTup K tl) (gName i) tYes vs tail σ H Q := by
  refine hi _ fun a H1 s1 hS => ?_
  refine ⟨a, rfl, ⟨_, hS⟩, fun D nD => ?_⟩
  have hB : Acc K D H1 [] (upd H1 D (.lst [])) := ⟨same_new nD, [], upd_same, .nil⟩
  refine ⟨fun j m H' => m = cs.length - j ∧ j ≤ cs.length ∧ Acc K D H1 ((cs.take j).flatMap f) H', ⟨cs.length, by simp, Nat.zero_le _, by simpa using hB⟩, ?_⟩
  rintro j m H' ⟨rfl, hj, hA⟩
  have hS' : SqT K H' a (cs.map V.int) := SqT.same hA.1 hS
  by_cases hlt : j < cs.length
  · have ec : cs[j]? = some cs[j] := List.getElem?_eq_getElem hlt
    refine .inr ⟨⟨_, _, hS', by rw [List.getElem?_map, ec]; rfl⟩, fun H'' => Acc K D H1 ((cs.take (j + 1)).flatMap f) H'', fun H'' h'' => ⟨cs.length - (j + 1), by omega, rfl, hlt, h''⟩, fun x H'' y => ?_⟩
    obtain ⟨rfl, y⟩ := y
    have e := y _ hS'
    rw [List.getElem?_map, ec] at e
    cases e
    refine ⟨hw _, ?_⟩
    simp only [tYes, if_true]
    have et : (cs.take (j + 1)).flatMap f = (cs.take j).flatMap f ++ f cs[j] := by
      rw [List.take_add_one, ec, List.flatMap_append]
      exact congrArg (fun z => (cs.take j).flatMap f ++ z) (List.append_nil _)
    refine ht D H1 cs[j] _ _ _ nD (List.getElem_mem hlt) ?_ hA fun H3 h3 => ?_
    · have e2 : cs.flatMap f = (cs.take j).flatMap f ++ (cs.drop j).flatMap f := by rw [← List.flatMap_append, List.take_append_drop]
      rw [e2, List.length_append]; omega
    · rw [et]
      exact h3
  · have ej : j = cs.length := by omega
    subst ej
    rw [List.take_length] at hA
    exact .inl ⟨⟨_, hS', by rw [List.length_map]; exact Nat.le_refl _⟩, k D H1 _ s1 nD hA⟩
/-- a comprehension over a range, its elements ints -/
theorem lc_rng {lo : Int} {n : Nat} {te : TE} {σ : L2.St} {H1 : Hp} {D : Addr} {Qd : Hp → Prop} {i : Nat} (nD : H1 D = none) (hn : n < sizeLine) (f : Nat → Int)
    (hs : ∀ j H (Qk : VK), j < n → Same H1 H → Qk (.int (f j)) H → te ((wipe σ [i]).set i (some (.int (lo + (j : Nat))))) H Qk)
    (hd : ∀ H, Same H1 H → H D = some (.lst (((List.range n).map f).map V.int)) → Qd H) :
    ∃ W : Nat → Nat → Hp → Prop, (∃ m, W 0 m (upd H1 D (.lst []))) ∧ ∀ j m H, W j m H →
      ((Itr lo n).stop j H ∧ Qd H) ∨ ((Itr lo n).go j H ∧ ∃ Nx : Hp → Prop, (∀ H', Nx H' → ∃ m', m' < m ∧ W (j + 1) m' H') ∧ ∀ x H', (Itr lo n).yld j H x H' → gName i x (wipe σ [i]) H' fun σ2 H2 => wipe σ2 [i] = wipe σ [i] ∧ tYes σ2 H2 fun b H3 =>
        if b = true then te σ2 H3 fun y H4 => ∃ acc, H4 D = some (.lst acc) ∧ acc.length < sizeLine ∧ Nx (upd H4 D (.lst (acc ++ [y]))) else Nx H3) := by
  refine lc_map (walk_range) nD hn (fun j y _ => y = .int (f j)) (fun _ _ => Mono.pure) (fun _ _ => trivial) (fun j x H H' hj s hy => ?_) (fun H ys s e el hR => hd H s ?_) gm_name
  · obtain ⟨rfl, rfl⟩ := hy
    refine ⟨?_, fun Qk k => hs j _ Qk hj s (k _ _ (Same.refl _) rfl)⟩
    simp only [wipe]
    rw [List.set_set, List.set_set]
  · rw [e]
    congr 2
    apply List.ext_getElem?
    intro j
    by_cases hj : j < ys.length
    · have e2 := List.getElem?_eq_getElem hj
      have e3 := hR j _ e2
      rw [e2, e3, List.getElem?_map, List.getElem?_map, List.getElem?_range (by omega)]
      rfl
    · rw [List.getElem?_eq_none (by omega), List.getElem?_eq_none (by simp; omega)]
end

theorem seqI {t u : TS} {D : Ends} {σ : L2.St} {H : Hp} (h : t { D with nx := u D } σ H) : tSeq t u D σ H := h
theorem asgI {te : TE} {g : TG} {D : Ends} {σ : L2.St} {H : Hp} (h : te σ H fun x H1 => g x σ H1 D.nx) : tAsg te g D σ H := h
theorem retI {te : TE} {D : Ends} {σ : L2.St} {H : Hp} (h : te σ H D.rt) : tRet te D σ H := h

theorem paired_ql {K : PySem.W.Frag} {H : Hp} : ∀ {ys : List V} {qs : List Hq}, Paired (fun y r => IsQ K y r H) ys qs → Paired (fun u ns => IsTI K u ns H) ys (qs.map ql)
  | _, _, .nil => .nil
  | _, _, .cons h t => .cons h (paired_ql t)
theorem ql_paired {K : PySem.W.Frag} {H : Hp} : ∀ {ys : List V} {qs : List Hq}, Paired (fun u ns => IsTI K u ns H) ys (qs.map ql) → Paired (fun y r => IsQ K y r H) ys qs
  | [], [], _ => .nil
  | [], _ :: _, h => by cases h
  | _ :: _, [], h => by cases h
  | _ :: _, _ :: _, .cons h t => .cons h (ql_paired t)

/-- a dict comprehension over a list that stays -/
theorem dc_list {K : PySem.W.Frag} {a : Addr} {xs : List V} {g : TG} {tt : TT} {tk tv : TE} {vs : List Nat} {σ : L2.St} {H1 : Hp} {D : Addr} {Qd : Hp → Prop} (Pv : Nat → Hp → Prop) (h0 : Pv 0 (upd H1 D (.dK []))) (hl : ∀ i H, i ≤ xs.length → Pv i H → SqL K H a xs)
    (hs : ∀ i x H, xs[i]? = some x → Pv i H → g x (wipe σ vs) H fun σ2 H2 => wipe σ2 vs = wipe σ vs ∧ tt σ2 H2 fun b H3 =>
      if b = true then tk σ2 H3 fun y H4 => tv σ2 H4 fun z H5 => ∃ kvs k, y = kV k ∧ H5 D = some (.dK kvs) ∧ kvs.length < sizeLine ∧ Pv (i + 1) (upd H5 D (.dK (putK kvs k z))) else Pv (i + 1) H3) (hd : ∀ H, Pv xs.length H → Qd H) :
    ∃ W : Nat → Nat → Hp → Prop, (∃ m, W 0 m (upd H1 D (.dK []))) ∧ ∀ i m H, W i m H →
      ((Itl K a).stop i H ∧ Qd H) ∨ ((Itl K a).go i H ∧ ∃ Nx : Hp → Prop, (∀ H', Nx H' → ∃ m', m' < m ∧ W (i + 1) m' H') ∧ ∀ x H', (Itl K a).yld i H x H' → g x (wipe σ vs) H' fun σ2 H2 => wipe σ2 vs = wipe σ vs ∧ tt σ2 H2 fun b H3 =>
        if b = true then tk σ2 H3 fun y H4 => tv σ2 H4 fun z H5 => ∃ kvs k, y = kV k ∧ H5 D = some (.dK kvs) ∧ kvs.length < sizeLine ∧ Nx (upd H5 D (.dK (putK kvs k z))) else Nx H3) := by
  refine ⟨fun i m H => m = xs.length - i ∧ i ≤ xs.length ∧ Pv i H, ⟨xs.length, by simp, Nat.zero_le _, h0⟩, ?_⟩
  rintro i m H ⟨rfl, hi, p⟩
  have q := hl i H hi p
  by_cases hlt : i < xs.length
  · refine .inr ⟨⟨xs, xs[i], q, by simp [hlt]⟩, Pv (i + 1), fun H' p' => ⟨xs.length - (i + 1), by omega, rfl, hlt, p'⟩, fun x H' y => ?_⟩
    obtain ⟨e, y⟩ := y
    subst e
    exact hs i x _ (y xs q) p
  · have e : i = xs.length := by omega
    subst e
    exact .inl ⟨⟨xs, q, Nat.le_refl _⟩, hd H p⟩

def rTupOf (K : PySem.W.Frag) : List V → Hp → VK → Prop := fun xs H Q => ∃ p ys, xs = [.ref p] ∧ ((SqL K H p ys ∧ ∀ l, H l = none → Q (.ref l) (upd H l (.tup ys))) ∨ (SqT K H p ys ∧ Q (.ref p) H))
theorem call_tupO {X : Cx} : CallR X (.type "tuple") (rTupOf X.K) := call_tuple_of
end TPW
namespace TPW
open PySem PySem.Spec PyProof.Rows L2 TP
open RZ (ItzT pi_zipA iZipA)
open C8 (Cal Def cal0 pe_c fnScope fnBody fnArgs fnScope_by pe_gc)
section
variable {P : Program} {w : World} {K : PySem.W.Frag} {mg : Str → Option Value} {base : Heap}
def spIsUnit (K : PySem.W.Frag) : Sp := fun vs H Q _ => ∃ v q, vs = [v] ∧ IsQ K v q H ∧ IsN q ∧ Bd q ∧ ∀ H', Same H H' → Q (.bl (decide (nrm q = 1))) H'
theorem c_is_unit (T : TopOk K mg) : Cal P w K mg base 4 "is_unit" (spIsUnit K) [] := by
  refine mkcal T.d_is_unit sc_is_unit (fun vs H Q E h => ?_) (fun f cdv A outer s H vs Q E hr h => ?_)
  · obtain ⟨v, q, rfl, _⟩ := h
    rfl
  · obtain ⟨v, q, rfl, hv, hn, hb, k⟩ := h
    refine ⟨_, (pss_one (ps_ret (pe_cmpR op_eq (pe_c (c_norm T) hr (by decide) rfl (pa_cons (pv 0) pa_nil)) pe_int (nomark _)))), ?_⟩
    refine ⟨v, rfl, v, q, rfl, hv, hn, hb, fun H1 s1 => ⟨rfl, ?_⟩⟩
    have e : decide (V.int (nrm q) = V.int 1) = decide (nrm q = 1) := by simp
    rw [e]
    exact k H1 s1

/-! ### the units -/
def cs1 : List Int := [-1, 1]
def halvesL : List (List Int) := cs1.flatMap fun a => cs1.flatMap fun b => cs1.flatMap fun c => cs1.flatMap fun d => [[a, b, c, d]]
def wholeL : List (List Int) := [0, 1, 2, 3].flatMap fun p => [-2, 2].map fun x => [0, 1, 2, 3].map fun a => if a = p then x else 0
def spUnits (K : PySem.W.Frag) : Sp := fun vs H Q _ => vs = [] ∧ ∀ (p : Addr) (us : List Hq) H', us.Perm unitsM → Same H H' → IsLT K (.ref p) (us.map ql) H' → Q (.ref p) H'
theorem unitsL : unitsM.map ql = halvesL ++ wholeL := by decide +kernel
theorem wipe4 {x0 x1 x2 x7 : Option V} {a b c d : Option V} : wipe [x0, x1, x2, a, b, c, d, x7] [3, 4, 5, 6] = [x0, x1, x2, none, none, none, none, x7] := rfl
theorem disp2 {X : Cx} {n m : Int} {ta tb : TE} {σ : L2.St} {H : Hp} {R : V → Hp → Prop} (ha : ∀ R : V → Hp → Prop, R (.int n) H → ta σ H R) (hb : ∀ R : V → Hp → Prop, R (.int m) H → tb σ H R) (k : ∀ a H', Same H H' → SqT X.K H' a (([n, m] : List Int).map V.int) → R (.ref a) H') : tTup (tCons ta (tCons tb tNil)) σ H R :=
  ha _ (hb _ ⟨by show 2 ≤ sizeLine; decide, fun p np => k p _ (same_new np) (SqT.of upd_same)⟩)
abbrev wPM (K : PySem.W.Frag) (n : Int) : TI := iTup K (tTup (tCons (tUn (rU fun i => .int (-i)) (tC (.int n))) (tCons (tC (.int n)) tNil)))
theorem c_units (T : TopOk K mg) : Cal P w K mg base 1 "units" (spUnits K) [] := by
  refine mkcal T.d_units sc_units (fun vs H Q E h => ?_) (fun f cdv A outer s H vs Q E hr h => ?_)
  · obtain ⟨rfl, _⟩ := h
    rfl
  · obtain ⟨rfl, k⟩ := h
    obtain ⟨tP, gP⟩ := T.g_PARTS
    refine ⟨_, (pss_cons (TPC.ps_setLc4 (i := 0) (own := [("a", 3), ("b", 4), ("c", 5), ("d", 6)]) (u1 := [4, 5, 6]) (u2 := [5, 6]) (u3 := [6]) (g0 := gName 3) (g1 := gName 4) (g2 := gName 5) (g3 := gName 6) (w0 := wPM K 1) (w1 := wPM K 1) (w2 := wPM K 1) (w3 := wPM K 1) (tt0 := tYes) (tt1 := tYes) (tt2 := tYes) (tt3 := tYes) rfl sc_units.nd rfl rfl (sw_true rfl rfl rfl (by decide +kernel)) (blkOk_by (N := N_units) (sc := fnScope s_units) (by decide +kernel)) (by decide) (by decide) (by decide)
        (pi_tup (pe_tup (pa_cons (pe_un un_neg pe_int) (pa_cons pe_int pa_nil)))) (fun _ _ _ _ _ => (pg_name (i := 3) sc_units.nd rfl (Or.inl rfl))) (fun _ _ _ _ _ => pts_nil)
        (fun _ _ _ _ _ => (pi_tup (pe_tup (pa_cons (pe_un un_neg pe_int) (pa_cons pe_int pa_nil))))) (fun _ _ _ _ _ => (pg_name (i := 4) sc_units.nd rfl (Or.inl rfl))) (fun _ _ _ _ _ => pts_nil)
        (fun _ _ _ _ _ => (pi_tup (pe_tup (pa_cons (pe_un un_neg pe_int) (pa_cons pe_int pa_nil))))) (fun _ _ _ _ _ => (pg_name (i := 5) sc_units.nd rfl (Or.inl rfl))) (fun _ _ _ _ _ => pts_nil)
        (fun _ _ _ _ _ => (pi_tup (pe_tup (pa_cons (pe_un un_neg pe_int) (pa_cons pe_int pa_nil))))) (fun _ _ _ _ _ => (pg_name (i := 6) sc_units.nd rfl (Or.inl rfl))) (fun _ _ _ _ _ => pts_nil)
        (fun _ _ _ _ _ => (pe_tup (pa_cons (pv 3) (pa_cons (pv 4) (pa_cons (pv 5) (pa_cons (pv 6) pa_nil)))))))
      (pss_cons (ps_for PassesOwn.never rfl (pi_range1 (by rfl) T.m_range (pa_cons (pe_gc (v := .int 4) rfl ⟨_, gP, ⟨_, rfl⟩⟩) pa_nil)) (pg_name (i := 1) sc_units.nd rfl (Or.inr rfl)) (pss_one (ps_for PassesOwn.never rfl (pi_tup (pe_tup (pa_cons (pe_un un_neg pe_int) (pa_cons pe_int pa_nil)))) (pg_name (i := 2) sc_units.nd rfl (Or.inr rfl)) (pss_one (ps_expr (pe_bm PySem.F.plainAttrs_list PySem.F.slot_list_append PySem.F.type_list_append mt_append (pv 0) (pa_cons (pe_callTy call_tuple_of (by rfl) T.m_tuple (by decide +kernel) (pa_cons (pe_lc (own := [("at", 7)]) (g := gName 7) (tt := tYes) rfl sc_units.nd (pi_range1 (by rfl) T.m_range (pa_cons (pe_gc (v := .int 4) rfl ⟨_, gP, ⟨_, rfl⟩⟩) pa_nil)) (blkOk_by (N := N_units) (sc := fnScope s_units) (by decide +kernel)) (fun _ _ _ _ _ => (pg_name (i := 7) sc_units.nd rfl (Or.inl rfl))) (fun _ _ _ _ _ => pts_nil) (fun _ _ _ _ _ => (pe_ifExp (pt_cmpR op_eq (pv 7) (pv 1) (nomark _)) (pv 2) pe_int))) pa_nil)) pa_nil)))))))
      (pss_one (ps_ret (pe_callB (cr_sortQ hr.units) (by rfl) T.m_sorted (by decide +kernel) (pa_cons (pv 0) pa_nil)))))), ?_⟩
    rw [show L2.start N_units [] = [none, none, none, none, none, none, none, none] from rfl]
    have pm : ∀ (n : Int) (σ : L2.St) (H : Hp) (R : V → Hp → Prop), (∀ a H', Same H H' → SqT K H' a (([-n, n] : List Int).map V.int) → R (.ref a) H') → tTup (tCons (tUn (rU fun i => .int (-i)) (tC (.int n))) (tCons (tC (.int n)) tNil)) σ H R := fun n σ H R h =>
      ⟨n, rfl, by show 2 ≤ sizeLine; decide, fun p np => h p _ (same_new np) (SqT.of upd_same)⟩
    refine seqI (asgI ?_)
    refine lcN_acc (cs := cs1) (fun a => cs1.flatMap fun b => cs1.flatMap fun c => cs1.flatMap fun d => [[a, b, c, d]]) (fun R h => pm 1 _ _ R h) (fun c => by rfl) (fun D B a L H1 Nx nB ha hL hA kA => ?_) (fun D H1 H2 s1 nD hA => ?_)
    · refine clause_acc (cs := cs1) (fun b => cs1.flatMap fun c => cs1.flatMap fun d => [[a, b, c, d]]) nB hA (fun R h => pm 1 _ _ R h) (fun c => by rfl) (fun B b L H1 Nx nB hb hL2 hA kA => ?_) kA
      refine clause_acc (cs := cs1) (fun c => cs1.flatMap fun d => [[a, b, c, d]]) nB hA (fun R h => pm 1 _ _ R h) (fun c => by rfl) (fun B c L H1 Nx nB hc hL3 hA kA => ?_) kA
      refine clause_acc (cs := cs1) (fun d => [[a, b, c, d]]) nB hA (fun R h => pm 1 _ _ R h) (fun c => by rfl) (fun B d L H1 Nx nB hd hL4 hA kA => ?_) kA
      refine emit_acc nB hA ?_ (fun Qk kk => ?_) kA
      · exact small1000 (by simp [cs1] at hL hL2 hL3 hL4; omega)
      · exact ⟨_, rfl, _, rfl, _, rfl, _, rfl, by show 4 ≤ sizeLine; decide, fun p np => kk _ _ (same_new np) IsTI.new⟩
    · refine ⟨4, rfl, by decide, by decide, for_range (n := 4) (fun j σ H' => ∃ x y z, σ = [some (.ref D), x, y, none, none, none, none, z] ∧ Acc K D H1 (halvesL ++ (([0, 1, 2, 3] : List Int).take j).flatMap fun p => [-2, 2].map fun x => [0, 1, 2, 3].map fun a => if a = p then x else 0) H') ⟨none, none, none, rfl, ?_⟩ (fun j σ H3 hj h3 => ?_) (fun σ H3 h3 => ?_)⟩
      · have e : halvesL ++ (([0, 1, 2, 3] : List Int).take 0).flatMap (fun p => [-2, 2].map fun x => [0, 1, 2, 3].map fun a => if a = p then x else 0) = halvesL := List.append_nil _
        rw [e]
        exact hA
      · obtain ⟨x, y, z, rfl, hA3⟩ := h3
        generalize hL0 : halvesL ++ (([0, 1, 2, 3] : List Int).take j).flatMap (fun p => [-2, 2].map fun x => [0, 1, 2, 3].map fun a => if a = p then x else 0) = L0 at hA3
        have hz0 : L0.length ≤ 24 := by
          have : L0.length = (halvesL ++ (([0, 1, 2, 3] : List Int).take j).flatMap (fun p => [-2, 2].map fun x => [0, 1, 2, 3].map fun a => if a = p then x else 0)).length := by rw [hL0]
          rw [this]
          rcases (by omega : j = 0 ∨ j = 1 ∨ j = 2 ∨ j = 3) with rfl | rfl | rfl | rfl <;> decide
        refine ⟨2, rfl, by show 2 ≤ sizeLine; decide, fun a na => ?_⟩
        have s4 : Same H3 (upd H3 a (.tup [.int (-2), .int 2])) := same_new na
        have hS : SqT K (upd H3 a (.tup [.int (-2), .int 2])) a (([-2, 2] : List Int).map V.int) := SqT.of upd_same
        generalize upd H3 a (.tup [.int (-2), .int 2]) = H4 at s4 hS ⊢
        have hA4 := hA3.same s4
        obtain ⟨sA, ysA, eA, pA⟩ := id hA4
        have nB : less1 H4 D D = none := less1_none
        have hB : Acc K D (less1 H4 D) L0 H4 := ⟨less1_same, ysA, eA, pA⟩
        have hSB : SqT K (less1 H4 D) a (([-2, 2] : List Int).map V.int) := SqT.less1 eA hS
        have sB : Same H1 (less1 H4 D) := same_less1 sA nD
        refine ⟨a, rfl, ⟨_, hS⟩, for_tup (xs := ([-2, 2] : List Int).map V.int) (fun i σ H' => ∃ y z, σ = [some (.ref D), some (.int (0 + j)), y, none, none, none, none, z] ∧ Acc K D (less1 H4 D) (L0 ++ (([-2, 2] : List Int).take i).map fun x => [0, 1, 2, 3].map fun a => if a = (j : Int) then x else 0) H') ⟨y, z, rfl, ?_⟩ (fun i σ H' _ h' => ?_) (fun i v σ H' ev h' => ?_) (fun σ H' h' => ?_)⟩
        · simpa using hB
        · obtain ⟨_, _, _, h''⟩ := h'
          exact SqT.same h''.1 hSB
        · obtain ⟨y, z, rfl, hA5⟩ := h'
          rw [List.getElem?_map] at ev
          obtain ⟨n, en, rfl⟩ := Option.map_eq_some_iff.mp ev
          obtain ⟨s5, ys5, e5, p5⟩ := id hA5
          refine ⟨.ref D, rfl, .inl ⟨rfl, _, SqL.of e5⟩, ?_⟩
          refine ⟨4, rfl, by decide, by decide, fun D2 nD2 => lc_rng (n := 4) nD2 four_lt (fun k => if (k : Int) = (j : Int) then n else 0) (fun k H6 Qk hk s6 k6 => ?_) (fun H6 s6 e6 => ?_)⟩
          · refine ⟨_, rfl, _, rfl, rfl, _, rfl, ?_⟩
            have e7 : (V.int (0 + (k : Int)) = V.int (0 + (j : Int))) ↔ ((k : Int) = (j : Int)) := by
              constructor
              · intro q; injection q with q; omega
              · intro q; rw [q]
            by_cases c : (k : Int) = (j : Int)
            · rw [if_pos c] at k6
              rw [decide_eq_true (e7.mpr c)]
              exact iteT ⟨_, rfl, k6⟩
            · rw [if_neg c] at k6
              rw [decide_eq_false (fun q => c (e7.mp q))]
              exact iteF k6
          · refine ⟨D2, _, rfl, .inl ⟨SqL.of e6, fun l nl => ?_⟩⟩
            have hA7 := (hA5.same s6).same (same_new (o := .tup (((List.range 4).map fun k : Nat => if (k : Int) = (j : Int) then n else 0).map V.int)) nl)
            have e8 := (s6.trans (same_new (o := .tup (((List.range 4).map fun k : Nat => if (k : Int) = (j : Int) then n else 0).map V.int)) nl)) _ _ e5
            have hz5 : ys5.length < sizeLine := by
              have e9 := p5.length
              rw [List.length_append, List.length_map] at e9
              have e10 : (([-2, 2] : List Int).take i).length ≤ 2 := by rw [List.length_take]; exact Nat.min_le_right _ _
              exact small1000 (by omega)
            refine ⟨D, _, _, rfl, rfl, e8, hz5, ?_⟩
            refine ⟨_, z, rfl, ?_⟩
            have h9 := hA7.push nB e8 (IsTI.new (ns := (List.range 4).map fun k : Nat => if (k : Int) = (j : Int) then n else 0))
            have e11 : (L0 ++ (([-2, 2] : List Int).take (i + 1)).map fun x => [0, 1, 2, 3].map fun a => if a = (j : Int) then x else 0) = (L0 ++ (([-2, 2] : List Int).take i).map fun x => [0, 1, 2, 3].map fun a => if a = (j : Int) then x else 0) ++ [(List.range 4).map fun k : Nat => if (k : Int) = (j : Int) then n else 0] := by
              rw [List.take_add_one, en, List.map_append, List.append_assoc]
              rfl
            rw [e11]
            exact h9
        · obtain ⟨y, z, rfl, hA5⟩ := h'
          refine ⟨_, y, z, rfl, sB.trans hA5.1, ?_⟩
          have e12 : halvesL ++ (([0, 1, 2, 3] : List Int).take (j + 1)).flatMap (fun p => [-2, 2].map fun x => [0, 1, 2, 3].map fun a => if a = p then x else 0) = L0 ++ (([-2, 2] : List Int).take (([-2, 2] : List Int).map V.int).length).map fun x => [0, 1, 2, 3].map fun a => if a = (j : Int) then x else 0 := by
            rw [← hL0]
            rcases (by omega : j = 0 ∨ j = 1 ∨ j = 2 ∨ j = 3) with rfl | rfl | rfl | rfl <;> rfl
          rw [e12]
          exact hA5.2
      · obtain ⟨x, y, z, rfl, sA, ysA, eA, pA⟩ := h3
        have e13 : halvesL ++ (([0, 1, 2, 3] : List Int).take 4).flatMap (fun p => [-2, 2].map fun x => [0, 1, 2, 3].map fun a => if a = p then x else 0) = unitsM.map ql := by
          rw [unitsL]; rfl
        rw [e13] at pA
        obtain ⟨bs, eb1, eb2, hb⟩ := lt_pairs (qs := unitsM) pA
        refine ⟨.ref D, rfl, D, bs, rfl, rfl, ?_, hb, fun cs p hp hs np => ?_⟩
        · rw [eb1]; exact SqL.of eA
        · have sN := same_new (o := .lst (cs.map (·.1))) np
          refine k p (cs.map (·.2)) _ ?_ ((s1.trans sA).trans sN) ⟨p, _, rfl, SqL.of upd_same, pairs_lt fun b hb' => (hb b (hp.mem_iff.mp hb')).same sN⟩
          rw [← eb2]
          exact hp.map _

/-! ### associates, canonical -/
theorem unit_ok : ∀ u ∈ unitsM, IsN u := by decide +kernel
theorem Bd.small {q : Hq} {n : Nat} (hn : n ≤ 2000) (h : q.a.natAbs < 2 ^ n ∧ q.b.natAbs < 2 ^ n ∧ q.c.natAbs < 2 ^ n ∧ q.d.natAbs < 2 ^ n) : Bd q := by
  have h2 := Nat.pow_le_pow_right (n := 2) (by decide) hn
  exact ⟨Nat.lt_of_lt_of_le h.1 h2, Nat.lt_of_lt_of_le h.2.1 h2, Nat.lt_of_lt_of_le h.2.2.1 h2, Nat.lt_of_lt_of_le h.2.2.2 h2⟩
theorem unit_small : ∀ u ∈ unitsM, u.a.natAbs < 2 ^ 2 ∧ u.b.natAbs < 2 ^ 2 ∧ u.c.natAbs < 2 ^ 2 ∧ u.d.natAbs < 2 ^ 2 := by decide +kernel
theorem unit_bd {u : Hq} (h : u ∈ unitsM) : Bd u := Bd.small (n := 2) (by decide) (unit_small u h)
def spAssoc (K : PySem.W.Frag) : Sp := fun vs H Q _ => ∃ v q, vs = [v] ∧ IsQ K v q H ∧ IsN q ∧ q ≠ zero ∧ Bd q ∧
  ∀ (p : Addr) (rs : List Hq) H', rs.Perm (unitsM.map (mul q)) → rs.Pairwise (fun x y => ¬ ql y < ql x) → Same H H' → IsLTT K (.ref p) (rs.map ql) H' → Q (.ref p) H'
theorem c_associates (T : TopOk K mg) : Cal P w K mg base 4 "associates" (spAssoc K) [] := by
  refine mkcal T.d_associates sc_associates (fun vs H Q E h => ?_) (fun f cdv A outer s H vs Q E hr h => ?_)
  · obtain ⟨v, q, rfl, _⟩ := h
    rfl
  · obtain ⟨v, q, rfl, hv, hn, hz, hb, k⟩ := h
    refine ⟨_, (pss_cons (ps_expr (pe_c (c_check_not_zero T) hr (by decide) rfl (pa_cons (pv 0) pa_nil)))
      (pss_one (ps_ret (pe_callB (cr_sortQ hr.units) (by rfl) T.m_sorted (by decide +kernel) (pa_cons (pe_lc (own := [("unit", 1)]) (g := gName 1) (tt := tYes) rfl sc_associates.nd (pi_list (pe_c0 (c_units T) hr (by decide) rfl)) (blkOk_by (N := N_associates) (sc := fnScope s_associates) (by decide +kernel)) (fun _ _ _ _ _ => (pg_name (i := 1) sc_associates.nd rfl (Or.inl rfl))) (fun _ _ _ _ _ => pts_nil) (fun _ _ _ _ _ => (pe_c (c_product T) hr (by decide) rfl (pa_cons (pv 0) (pa_cons (pv 1) pa_nil))))) pa_nil))))), ?_⟩
    refine ⟨v, rfl, v, q, rfl, hv, hn, hz, fun H1 s1 => ?_⟩
    refine ⟨rfl, fun p us H2 hp s2 hl => ?_⟩
    obtain ⟨a, vs, ea, hS, hP⟩ := hl
    cases ea
    obtain ⟨bs, eb1, eb2, hbs⟩ := lt_pairs (qs := us) hP
    have hv2 := hv.same (s1.trans s2)
    have hbs' : ∀ H3, Same H2 H3 → ∀ b ∈ bs, IsQ K b.1 b.2 H3 := fun H3 s3 b hb => (hbs b hb).same s3
    subst eb1
    have hlen : bs.length = 24 := by
      have e1 := congrArg List.length eb2
      rw [List.length_map, hp.length_eq] at e1
      exact e1
    refine ⟨p, rfl, ⟨_, hS⟩, fun D nD => lc_rel (xs := bs) (β := Hq) walk_list (fun H s => s.seq hS) (fun u b H => u = b.1 ∧ IsQ K b.1 b.2 H) (fun u b H H' s h => ⟨h.1, h.2.same s⟩) ?_ (fun y r H => IsTT y (ql r) H) (fun y r => mono_tt) (fun b => mul q b.2) nD ?_ (fun u b H3 Qk hb3 s3 hr3 k3 => ?_) (fun H3 ys s3 e3 hP3 => ?_)⟩
    · refine Paired.of (by simp) fun i x b ex eb => ?_
      rw [List.getElem?_map, eb] at ex
      cases ex
      exact ⟨rfl, hbs b (List.mem_of_getElem? eb)⟩
    · rw [List.length_map]
      exact small1000 (by omega)
    · obtain ⟨rfl, hq3⟩ := hr3
      have hu : b.2 ∈ unitsM := hp.mem_iff.mp (by rw [← eb2]; exact List.mem_map_of_mem hb3)
      exact ⟨v, rfl, b.1, rfl, v, b.1, q, b.2, rfl, hv2.same s3, hq3, hn, unit_ok _ hu, hb, unit_bd hu, fun z H4 s4 hz4 => k3 z H4 s4 hz4⟩
    · obtain ⟨cs, ec1, ec2, hcs⟩ := rel_pairs hP3
      refine ⟨D, cs, rfl, rfl, by rw [ec1]; exact SqL.of e3, fun b hb => (hcs b hb).ti, fun ds p hp2 hs2 np => ?_⟩
      have sN := same_new (o := .lst (ds.map (·.1))) np
      refine k p (ds.map (·.2)) _ ?_ ?_ (((s1.trans s2).trans s3).trans sN) ⟨p, _, rfl, SqL.of upd_same, paired_map (pairs_rel (R := fun v r => IsTT v (ql r) (upd H3 p (.lst (ds.map (·.1))))) fun b hb' => (hcs b (hp2.mem_iff.mp hb')).same sN)⟩
      · have e4 : (ds.map (·.2)).Perm (cs.map (·.2)) := hp2.map _
        rw [ec2] at e4
        refine e4.trans ?_
        have e5 : (bs.map fun b => mul q b.2) = us.map (mul q) := by rw [← eb2, List.map_map]; rfl
        rw [e5]
        exact hp.map _
      · rw [List.pairwise_map]
        exact hs2
/-- the greatest of the associates -/
def IsCanon (q r : Hq) : Prop := r ∈ unitsM.map (mul q) ∧ ∀ s ∈ unitsM.map (mul q), ¬ ql r < ql s
def spCanon (K : PySem.W.Frag) : Sp := fun vs H Q _ => ∃ v q, vs = [v] ∧ IsQ K v q H ∧ IsN q ∧ q ≠ zero ∧ Bd q ∧ ∀ u r H', IsCanon q r → Same H H' → IsQ K u r H' → Q u H'
theorem c_canonical (T : TopOk K mg) : Cal P w K mg base 5 "canonical" (spCanon K) [] := by
  refine mkcal T.d_canonical sc_canonical (fun vs H Q E h => ?_) (fun f cdv A outer s H vs Q E hr h => ?_)
  · obtain ⟨v, q, rfl, _⟩ := h
    rfl
  · obtain ⟨v, q, rfl, hv, hn, hz, hb, k⟩ := h
    refine ⟨_, (pss_one (ps_ret (pe_ix ix_list (pe_c (c_associates T) hr (by decide) rfl (pa_cons (pv 0) pa_nil)) (pe_un un_neg pe_int) (fun _ _ => rfl)))), ?_⟩
    refine ⟨v, rfl, v, q, rfl, hv, hn, hz, hb, fun p rs H1 hp hs s1 hl => ?_⟩
    obtain ⟨a, vs, ea, hS, hP⟩ := hl.lt
    cases ea
    have hlen : rs.length = 24 := hp.length_eq
    obtain ⟨rs', r, rfl⟩ : ∃ rs' r, rs = rs' ++ [r] := ⟨rs.dropLast, rs.getLast (by intro e; rw [e] at hlen; cases hlen), (List.dropLast_concat_getLast _).symm⟩
    have hvl := hP.length
    rw [List.length_map] at hvl
    have hne : vs ≠ [] := by intro e; rw [e] at hvl; rw [hlen] at hvl; cases hvl
    obtain ⟨vs', u, rfl⟩ : ∃ vs' u, vs = vs' ++ [u] := ⟨vs.dropLast, vs.getLast hne, (List.dropLast_concat_getLast _).symm⟩
    have hu : IsQ K u r H1 := by
      have hl2 : vs'.length = rs'.length := by simp at hvl; exact hvl
      obtain ⟨ns, en, hr⟩ := Paired.get hP (i := vs'.length) (x := u) (by simp)
      rw [List.getElem?_map, hl2] at en
      simp at en
      subst en
      exact hr
    refine ⟨1, rfl, p, _, _, u, rfl, rfl, hS, atI_last _ _, ?_⟩
    refine k u r H1 ⟨hp.mem_iff.mp (by simp), fun s hs' => ?_⟩ s1 hu
    have hs3 := hp.mem_iff.mpr hs'
    rcases List.mem_append.mp hs3 with h | h
    · exact (List.pairwise_append.mp hs).2.2 s h r (by simp)
    · rw [List.mem_singleton.mp h]
      exact List.lt_irrefl _
/-! ### product_of -/
def prodQ (qs : List Hq) : Hq := qs.foldl mul one
def spProductOf (K : PySem.W.Frag) : Sp := fun vs H Q _ => ∃ v qs, vs = [v] ∧ IsLT K v (qs.map ql) H ∧ (∀ q ∈ qs, IsN q ∧ Bd q) ∧ (∀ i, i ≤ qs.length → Bd (prodQ (qs.take i))) ∧ ∀ z H', Same H H' → IsQ K z (prodQ qs) H' → Q z H'
theorem prodQ_isN : ∀ {qs : List Hq}, (∀ q ∈ qs, IsN q) → IsN (prodQ qs) := by
  intro qs h
  have : ∀ (qs : List Hq) (p : Hq), IsN p → (∀ q ∈ qs, IsN q) → IsN (qs.foldl mul p) := by
    intro qs
    induction qs with
    | nil => intro p hp _; exact hp
    | cons q qs ih => intro p hp h; exact ih _ (mul_isN hp (h q (List.mem_cons_self ..))) fun r hr => h r (List.mem_cons_of_mem _ hr)
  exact this qs one one_isN h
theorem c_product_of (T : TopOk K mg) : Cal P w K mg base 4 "product_of" (spProductOf K) [] := by
  refine mkcal T.d_product_of sc_product_of (fun vs H Q E h => ?_) (fun f cdv A outer s H vs Q E hr h => ?_)
  · obtain ⟨v, q, rfl, _⟩ := h
    rfl
  · obtain ⟨v, qs, rfl, hl, hq, hb, k⟩ := h
    obtain ⟨aO, gO, tO⟩ := T.g_ONE
    obtain ⟨a, us, rfl, hS, hP⟩ := hl
    have hlen := hP.length
    rw [List.length_map] at hlen
    refine ⟨_, (pss_cons (ps_set (i := 1) sc_product_of.nd rfl (Or.inl rfl) (pe_gc (v := .ref aO) rfl ⟨_, gO, rfl⟩))
      (pss_cons (ps_for PassesOwn.never rfl (pi_list (pv 0)) (pg_name (i := 2) sc_product_of.nd rfl (Or.inl rfl)) (pss_one (ps_set (i := 1) sc_product_of.nd rfl (Or.inl rfl) (pe_c (c_product T) hr (by decide) rfl (pa_cons (pv 1) (pa_cons (pv 2) pa_nil))))))
      (pss_one (ps_ret (pv 1))))), ?_⟩
    refine ⟨_, rfl, a, rfl, ⟨_, hS⟩, for_list (xs := us) (fun i σ H' => ∃ x y, σ = [some (.ref a), some x, y] ∧ Same H H' ∧ IsQ K x (prodQ (qs.take i)) H') ⟨_, _, rfl, Same.refl _, aO, rfl, tO _⟩ (fun i σ H' _ h => ?_) (fun i x σ H' ex h => ?_) (fun σ H' h => ?_)⟩
    · obtain ⟨_, _, _, s1, _⟩ := h
      exact s1.seq hS
    · obtain ⟨z, y, rfl, s1, hz⟩ := h
      obtain ⟨ns, en, hx⟩ := Paired.get hP ex
      rw [List.getElem?_map] at en
      obtain ⟨q, eq, rfl⟩ := Option.map_eq_some_iff.mp en
      have hi : i < qs.length := (List.getElem?_eq_some_iff.mp eq).1
      have hm := List.mem_of_getElem? eq
      refine ⟨z, rfl, x, rfl, z, x, _, q, rfl, hz, hx.same s1, prodQ_isN (fun r hr => (hq r (List.mem_of_mem_take hr)).1), (hq q hm).1, hb i (by omega), (hq q hm).2, fun u H2 s2 hu => ?_⟩
      refine ⟨u, _, rfl, s1.trans s2, ?_⟩
      have e : prodQ (qs.take (i + 1)) = mul (prodQ (qs.take i)) q := by
        rw [List.take_add_one, eq]
        exact List.foldl_append
      rw [e]
      exact hu.ti
    · obtain ⟨z, y, rfl, s1, hz⟩ := h
      rw [hlen, List.take_length] at hz
      exact ⟨z, rfl, k z H' s1 hz⟩
end
end TPW
/-! dividing with remainder, common divisors: mathematics -/
namespace TP
def wholeM (x : Hq) (n : Int) : Hq := ⟨2 * ((x.a + n) / (2 * n)), 2 * ((x.b + n) / (2 * n)), 2 * ((x.c + n) / (2 * n)), 2 * ((x.d + n) / (2 * n))⟩
def halfM (x : Hq) (n : Int) : Hq := ⟨2 * (x.a / (2 * n)) + 1, 2 * (x.b / (2 * n)) + 1, 2 * (x.c / (2 * n)) + 1, 2 * (x.d / (2 * n)) + 1⟩
def distM (x : Hq) (n : Int) (q : Hq) : Int := (n * q.a - x.a) ^ 2 + ((n * q.b - x.b) ^ 2 + ((n * q.c - x.c) ^ 2 + ((n * q.d - x.d) ^ 2 + 0)))
def lst (q : Hq) : List Int := [q.a, q.b, q.c, q.d]
def nearM (x : Hq) (n : Int) : Hq :=
  if distM x n (wholeM x n) = distM x n (halfM x n) then (if lst (wholeM x n) < lst (halfM x n) then halfM x n else wholeM x n)
  else if distM x n (wholeM x n) < distM x n (halfM x n) then wholeM x n else halfM x n
def quoM (p d : Hq) : Hq := nearM (mul (cj d) p) (nrm d)
def restM (p d : Hq) : Hq := sub p (mul d (quoM p d))

theorem whole_isN (x : Hq) (n : Int) : IsN (wholeM x n) := by
  unfold IsN wholeM; simp only; omega
theorem half_isN (x : Hq) (n : Int) : IsN (halfM x n) := by
  unfold IsN halfM; simp only; omega
theorem near_or (x : Hq) (n : Int) : nearM x n = wholeM x n ∨ nearM x n = halfM x n := by
  unfold nearM
  split
  · split
    · exact .inr rfl
    · exact .inl rfl
  · split
    · exact .inl rfl
    · exact .inr rfl
theorem near_isN (x : Hq) (n : Int) : IsN (nearM x n) := by
  rcases near_or x n with h | h <;> rw [h]
  · exact whole_isN x n
  · exact half_isN x n
theorem near_dist (x : Hq) (n : Int) : distM x n (nearM x n) ≤ distM x n (wholeM x n) ∧ distM x n (nearM x n) ≤ distM x n (halfM x n) := by
  unfold nearM
  split
  · split <;> omega
  · split <;> omega

/-- one part: how far its two candidates are -/
theorem part_far (x n : Int) (hn : 0 < n) : ∃ r : Int, 0 ≤ r ∧ r < 2 * n ∧ (n * (2 * (x / (2 * n)) + 1) - x = n - r) ∧ ((r < n ∧ n * (2 * ((x + n) / (2 * n))) - x = -r) ∨ (n ≤ r ∧ n * (2 * ((x + n) / (2 * n))) - x = 2 * n - r)) := by
  have h2 : 0 < 2 * n := by omega
  have e1 := Int.emod_add_mul_ediv x (2 * n)
  have e2 := Int.emod_nonneg x (show 2 * n ≠ 0 by omega)
  have e3 := Int.emod_lt_of_pos x h2
  generalize hj : x / (2 * n) = j at *
  generalize hr : x % (2 * n) = r at *
  refine ⟨r, e2, e3, ?_, ?_⟩
  · have : n * (2 * j + 1) = (2 * n) * j + n := by grind only
    omega
  · by_cases hlt : r < n
    · left
      have k : (x + n) / (2 * n) = j := by
        rw [← e1, show r + 2 * n * j + n = (r + n) + 2 * n * j by omega, Int.add_mul_ediv_left _ _ (by omega), Int.ediv_eq_zero_of_lt (by omega) (by omega)]
        omega
      rw [k]
      have : n * (2 * j) = (2 * n) * j := by grind only
      exact ⟨hlt, by omega⟩
    · right
      have k : (x + n) / (2 * n) = j + 1 := by
        rw [← e1, show r + 2 * n * j + n = (r - n) + 2 * n * (j + 1) by rw [Int.mul_add]; omega, Int.add_mul_ediv_left _ _ (by omega), Int.ediv_eq_zero_of_lt (by omega) (by omega)]
        omega
      rw [k]
      have : n * (2 * (j + 1)) = (2 * n) * j + 2 * n := by grind only
      exact ⟨by omega, by omega⟩
theorem part_bound (x n : Int) (hn : 0 < n) : (n * (2 * ((x + n) / (2 * n))) - x).natAbs ≤ n.natAbs ∧ (n * (2 * (x / (2 * n)) + 1) - x).natAbs ≤ n.natAbs := by
  obtain ⟨r, h0, h1, h2, h3⟩ := part_far x n hn
  rw [h2]
  rcases h3 with ⟨h3, h4⟩ | ⟨h3, h4⟩ <;> rw [h4] <;> omega
theorem part_sq (x n : Int) (hn : 0 < n) : (n * (2 * ((x + n) / (2 * n))) - x) ^ 2 + (n * (2 * (x / (2 * n)) + 1) - x) ^ 2 ≤ n * n := by
  obtain ⟨r, h0, h1, h2, h3⟩ := part_far x n hn
  rw [h2]
  rcases h3 with ⟨h3, h4⟩ | ⟨h3, h4⟩ <;> rw [h4]
  · have e : (-r) ^ 2 + (n - r) ^ 2 = n * n - 2 * (r * (n - r)) := by grind only
    have := Int.mul_nonneg h0 (by omega : 0 ≤ n - r)
    omega
  · have e : (2 * n - r) ^ 2 + (n - r) ^ 2 = n * n - 2 * ((r - n) * (2 * n - r)) := by grind only
    have := Int.mul_nonneg (by omega : 0 ≤ r - n) (by omega : 0 ≤ 2 * n - r)
    omega
theorem dist_sum (x : Hq) (n : Int) (hn : 0 < n) : distM x n (wholeM x n) + distM x n (halfM x n) ≤ 4 * (n * n) := by
  have h1 := part_sq x.a n hn
  have h2 := part_sq x.b n hn
  have h3 := part_sq x.c n hn
  have h4 := part_sq x.d n hn
  simp only [distM, wholeM, halfM]
  omega
theorem near_half (x : Hq) (n : Int) (hn : 0 < n) : distM x n (nearM x n) ≤ 2 * (n * n) := by
  have h1 := near_dist x n
  have h2 := dist_sum x n hn
  omega
theorem dist_n4 (x : Hq) (n : Int) (q : Hq) : distM x n q = n4 (sub (scl n q) x) := by
  simp only [distM, n4, sub, scl]
  grind only

theorem sub_mul {p q r : Hq} (hp : IsN p) (hq : IsN q) (hr : IsN r) : mul p (sub q r) = sub (mul p q) (mul p r) := by
  obtain ⟨⟨a1, a2, a3, a4⟩, _⟩ := mul_core hp hq
  obtain ⟨⟨b1, b2, b3, b4⟩, _⟩ := mul_core hp hr
  obtain ⟨⟨c1, c2, c3, c4⟩, _⟩ := mul_core hp (sub_isN hq hr)
  generalize mul p q = X at *
  generalize mul p r = Y at *
  generalize mul p (sub q r) = Z at *
  simp only [raw1, raw2, raw3, raw4, sub] at *
  apply Hq.ext' <;> simp only
  · have : 2 * Z.a = 2 * X.a - 2 * Y.a := by rw [a1, b1, c1]; grind only
    omega
  · have : 2 * Z.b = 2 * X.b - 2 * Y.b := by rw [a2, b2, c2]; grind only
    omega
  · have : 2 * Z.c = 2 * X.c - 2 * Y.c := by rw [a3, b3, c3]; grind only
    omega
  · have : 2 * Z.d = 2 * X.d - 2 * Y.d := by rw [a4, b4, c4]; grind only
    omega
theorem scl_one_mul {n : Int} {q : Hq} (h : IsN q) : mul (scl n one) q = scl n q := by
  rw [scl_mul one_isN h, one_mul']
/-- conj(d) * rest = conj(d) * p - N(d) * quotient -/
theorem cj_rest {p d : Hq} (hp : IsN p) (hd : IsN d) : mul (cj d) (restM p d) = sub (mul (cj d) p) (scl (nrm d) (quoM p d)) := by
  have hq : IsN (quoM p d) := near_isN _ _
  unfold restM
  rw [sub_mul (cj_isN hd) hp (mul_isN hd hq), ← mul_assoc' (cj_isN hd) hd hq, cj_mul_self hd, scl_one_mul hq]
theorem rest_isN {p d : Hq} (hp : IsN p) (hd : IsN d) : IsN (restM p d) := sub_isN hp (mul_isN hd (near_isN _ _))
theorem n4_sub (p q : Hq) : n4 (sub p q) = n4 (sub q p) := by
  simp only [n4, sub]; grind only
/-- the remainder's norm is at most half of the divisor's -/
theorem rest_half {p d : Hq} (hp : IsN p) (hd : IsN d) (hz : d ≠ zero) : 2 * nrm (restM p d) ≤ nrm d := by
  have hn := nrm_pos hd hz
  have h1 := near_half (mul (cj d) p) (nrm d) hn
  rw [dist_n4, n4_sub] at h1
  have h2 : n4 (mul (cj d) (restM p d)) ≤ 2 * (nrm d * nrm d) := by
    rw [cj_rest hp hd]; exact h1
  rw [← nrm_core (mul_isN (cj_isN hd) (rest_isN hp hd)), nrm_mul (cj_isN hd) (rest_isN hp hd), nrm_cj] at h2
  have h3 : nrm d * (2 * nrm (restM p d)) ≤ nrm d * nrm d := by
    have : nrm d * (2 * nrm (restM p d)) = 2 * (nrm d * nrm (restM p d)) := by grind only
    omega
  exact Int.le_of_mul_le_mul_left h3 hn

/-! left divisors -/
def LD (d x : Hq) : Prop := ∃ y, IsN y ∧ x = mul d y
theorem LD.refl (d : Hq) : LD d d := ⟨one, one_isN, (mul_one' d).symm⟩
theorem LD.zero (d : Hq) : LD d zero := ⟨TP.zero, zero_isN, (mul_zero' d).symm⟩
theorem LD.mulr {d x y : Hq} (hd : IsN d) (hy : IsN y) (h : LD d x) : LD d (mul x y) := by
  obtain ⟨z, hz, rfl⟩ := h
  exact ⟨mul z y, mul_isN hz hy, mul_assoc' hd hz hy⟩
theorem LD.sub {d x y : Hq} (hd : IsN d) (h : LD d x) (h2 : LD d y) : LD d (TP.sub x y) := by
  obtain ⟨z, hz, rfl⟩ := h
  obtain ⟨w, hw, rfl⟩ := h2
  exact ⟨TP.sub z w, sub_isN hz hw, (sub_mul hd hz hw).symm⟩
theorem LD.trans {d e x : Hq} (hd : IsN d) (h : LD d e) (h2 : LD e x) : LD d x := by
  obtain ⟨z, hz, rfl⟩ := h
  obtain ⟨w, hw, rfl⟩ := h2
  exact ⟨mul z w, mul_isN hz hw, mul_assoc' hd hz hw⟩
theorem sub_sub (x y : Hq) : TP.sub x (TP.sub x y) = y := by
  simp only [TP.sub]
  apply Hq.ext' <;> simp only <;> omega
/-- if d divides the divisor and the remainder, it divides the number -/
theorem LD.back {d p e : Hq} (hd : IsN d) (h1 : LD d e) (h2 : LD d (restM p e)) : LD d p := by
  have h3 : LD d (mul e (quoM p e)) := h1.mulr hd (near_isN _ _)
  have e1 : p = TP.sub (restM p e) (TP.sub TP.zero (mul e (quoM p e))) := by
    unfold restM
    simp only [TP.sub, TP.zero]
    apply Hq.ext' <;> simp only <;> omega
  rw [e1]
  exact h2.sub hd ((LD.zero d).sub hd h3)
theorem LD.fwd {d p e : Hq} (hd : IsN d) (h1 : LD d p) (h2 : LD d e) : LD d (restM p e) := h1.sub hd (h2.mulr hd (near_isN _ _))

/-- exact division -/
theorem near_scl {y : Hq} (hy : IsN y) {n : Int} (hn : 0 < n) : nearM (scl n y) n = y := by
  have ev : ∀ k : Int, (n * (2 * k) + n) / (2 * n) = k := fun k => by
    rw [show n * (2 * k) + n = n + 2 * n * k by grind only, Int.add_mul_ediv_left _ _ (by omega), Int.ediv_eq_zero_of_lt (by omega) (by omega)]; omega
  have od : ∀ k : Int, (n * (2 * k + 1)) / (2 * n) = k := fun k => by
    rw [show n * (2 * k + 1) = n + 2 * n * k by grind only, Int.add_mul_ediv_left _ _ (by omega), Int.ediv_eq_zero_of_lt (by omega) (by omega)]; omega
  have ev2 : ∀ k : Int, (n * (2 * k)) / (2 * n) = k := fun k => by
    rw [show n * (2 * k) = 0 + 2 * n * k by grind only, Int.add_mul_ediv_left _ _ (by omega), Int.ediv_eq_zero_of_lt (by omega) (by omega)]; omega
  have od2 : ∀ k : Int, (n * (2 * k + 1) + n) / (2 * n) = k + 1 := fun k => by
    rw [show n * (2 * k + 1) + n = 0 + 2 * n * (k + 1) by grind only, Int.add_mul_ediv_left _ _ (by omega), Int.ediv_eq_zero_of_lt (by omega) (by omega)]; omega
  have hp : 0 < n * n := Int.mul_pos hn hn
  obtain ⟨e, a, b, c, d, he, rfl⟩ := hy.parts
  rcases he with rfl | rfl
  · simp only [Int.add_zero]
    have hw : wholeM (scl n ⟨2 * a, 2 * b, 2 * c, 2 * d⟩) n = ⟨2 * a, 2 * b, 2 * c, 2 * d⟩ := by
      simp only [wholeM, scl, ev]
    have h1 : distM (scl n ⟨2 * a, 2 * b, 2 * c, 2 * d⟩) n (wholeM (scl n ⟨2 * a, 2 * b, 2 * c, 2 * d⟩) n) = 0 := by
      rw [hw]; simp only [distM, scl, Int.sub_self]; decide
    have h2 : distM (scl n ⟨2 * a, 2 * b, 2 * c, 2 * d⟩) n (halfM (scl n ⟨2 * a, 2 * b, 2 * c, 2 * d⟩) n) = 4 * (n * n) := by
      simp only [halfM, scl, ev2, distM]; grind only
    unfold nearM
    rw [h1, h2, if_neg (by omega), if_pos (by omega), hw]
  · have hw : halfM (scl n ⟨2 * a + 1, 2 * b + 1, 2 * c + 1, 2 * d + 1⟩) n = ⟨2 * a + 1, 2 * b + 1, 2 * c + 1, 2 * d + 1⟩ := by
      simp only [halfM, scl, od]
    have h1 : distM (scl n ⟨2 * a + 1, 2 * b + 1, 2 * c + 1, 2 * d + 1⟩) n (halfM (scl n ⟨2 * a + 1, 2 * b + 1, 2 * c + 1, 2 * d + 1⟩) n) = 0 := by
      rw [hw]; simp only [distM, scl, Int.sub_self]; decide
    have h2 : distM (scl n ⟨2 * a + 1, 2 * b + 1, 2 * c + 1, 2 * d + 1⟩) n (wholeM (scl n ⟨2 * a + 1, 2 * b + 1, 2 * c + 1, 2 * d + 1⟩) n) = 4 * (n * n) := by
      simp only [wholeM, scl, od2, distM]; grind only
    unfold nearM
    rw [h1, h2, if_neg (by omega), if_neg (by omega), hw]
theorem quo_exact {d y : Hq} (hd : IsN d) (hy : IsN y) (hz : d ≠ zero) : quoM (mul d y) d = y ∧ restM (mul d y) d = zero := by
  have e : quoM (mul d y) d = y := by
    unfold quoM
    rw [← mul_assoc' (cj_isN hd) hd hy, cj_mul_self hd, scl_one_mul hy]
    exact near_scl hy (nrm_pos hd hz)
  refine ⟨e, ?_⟩
  unfold restM
  rw [e]
  simp only [sub, Int.sub_self, zero]
end TP
namespace TPW
open PySem PySem.Spec PyProof.Rows L2 TP
open RZ (ItzT pi_zipA iZipA)
open C8 (Cal Def cal0 pe_c fnScope fnBody fnArgs fnScope_by pe_gc)
section
variable {P : Program} {w : World} {K : PySem.W.Frag} {mg : Str → Option Value} {base : Heap}
def spIsNumL (K : PySem.W.Frag) : Sp := fun vs H Q _ => ∃ a q, vs = [.ref a] ∧ SqL K H a ((ql q).map V.int) ∧ ∀ H', Same H H' → Q (.bl (decide (IsN q))) H'
theorem c_is_numberL (T : TopOk K mg) : Cal P w K mg base 1 "is_number" (spIsNumL K) [] := by
  refine mkcal T.d_is_number sc_is_number (fun vs H Q E h => ?_) (fun f cdv A outer s H vs Q E hr h => ?_)
  · obtain ⟨v, q, rfl, _⟩ := h
    rfl
  · obtain ⟨a, q, rfl, hv, k⟩ := h
    obtain ⟨tP, gP⟩ := T.g_PARTS
    refine ⟨_, (pss_one (ps_ret (pe_and (pe_cmpR op_eq (pe_callB call_len_seq (by rfl) T.m_len (by decide +kernel) (pa_cons (pv 0) pa_nil)) (pe_gc (v := .int 4) rfl ⟨_, gP, ⟨_, rfl⟩⟩) (nomark _)) (pe_one (pe_cmpR op_eq (pe_callB call_lenD (by rfl) T.m_len (by decide +kernel) (pa_cons (pe_dc (own := [("part", 1)]) (g := gName 1) (tt := tYes) rfl sc_is_number.nd (pi_list (pv 0)) (blkOk_by (N := N_is_number) (sc := fnScope s_is_number) (by decide +kernel)) (fun _ _ _ _ _ => (pg_name (i := 1) sc_is_number.nd rfl (Or.inl rfl))) (fun _ _ _ _ _ => pts_nil) (fun _ _ _ _ _ => (pe_op op_mod (pv 1) pe_int)) (fun _ _ _ _ _ => pe_bl)) pa_nil)) pe_int (nomark _)))))), ?_⟩
    refine ⟨_, rfl, _, _, rfl, .inl hv, rfl, true, rfl, iteT ?_⟩
    refine ⟨_, rfl, a, rfl, ⟨_, hv⟩, fun D nD => ?_⟩
    refine dc_list (xs := (ql q).map V.int) (fun i H' => Same H H' ∧ H' D = some (.dK (parD [] ((ql q).take i)))) ⟨same_new nD, upd_same⟩ (fun i H' _ h => h.1.seq hv) (fun i x H' e h => ?_) (fun H' h => ?_)
    · obtain ⟨s1, eD⟩ := h
      rw [List.getElem?_map] at e
      obtain ⟨n, en, rfl⟩ := Option.map_eq_some_iff.mp e
      refine ⟨rfl, turnT ⟨_, rfl, n, 2, rfl, rfl, by show (0 : Int) < 2; decide, _, .inl (n % 2), rfl, eD, ?_, same_upd s1 nD, ?_⟩⟩
      · have h1 := parD_len ((ql q).take i) []
        have h2 : ((ql q).take i).length ≤ 4 := by
          rw [List.length_take]; exact Nat.min_le_right _ _
        exact small1000 (by simp only [List.length_nil] at h1; omega)
      · rw [upd_same, List.take_add_one, en]
        exact congrArg (fun z => some (HO.dK z)) (parD_snoc _ _ _).symm
    · obtain ⟨s1, eD⟩ := h
      refine ⟨D, _, rfl, eD, rfl, ?_⟩
      have e : decide (V.int ((parD [] ((ql q).take ((ql q).map V.int).length)).length : Nat) = V.int 1) = decide (IsN q) := by
        rw [← parD_isN q]
        simp
      rw [e]
      exact k H' s1

/-! ### content, primitive_part -/
def divQ (q : Hq) (n : Int) : Hq := ⟨q.a / n, q.b / n, q.c / n, q.d / n⟩
def gcdQ (q : Hq) : Int := ((Nat.gcd ((Nat.gcd q.a.natAbs q.b.natAbs : Nat) : Int).natAbs ((Nat.gcd q.c.natAbs q.d.natAbs : Nat) : Int).natAbs : Nat) : Int)
def contM (q : Hq) : Int := if IsN (divQ q (gcdQ q)) then gcdQ q else gcdQ q / 2
theorem gcdQ_ok {q : Hq} (hz : q ≠ zero) (hb : Bd q) : 0 < gcdQ q ∧ (gcdQ q).natAbs < 2 ^ 2000 := by
  unfold gcdQ
  simp only [Int.natAbs_natCast]
  generalize hg : Nat.gcd (Nat.gcd q.a.natAbs q.b.natAbs) (Nat.gcd q.c.natAbs q.d.natAbs) = g
  have h1 : g ∣ q.a.natAbs := hg ▸ Nat.dvd_trans (Nat.gcd_dvd_left _ _) (Nat.gcd_dvd_left _ _)
  have h2 : g ∣ q.b.natAbs := hg ▸ Nat.dvd_trans (Nat.gcd_dvd_left _ _) (Nat.gcd_dvd_right _ _)
  have h3 : g ∣ q.c.natAbs := hg ▸ Nat.dvd_trans (Nat.gcd_dvd_right _ _) (Nat.gcd_dvd_left _ _)
  have h4 : g ∣ q.d.natAbs := hg ▸ Nat.dvd_trans (Nat.gcd_dvd_right _ _) (Nat.gcd_dvd_right _ _)
  have fin : ∀ x : Int, x ≠ 0 → g ∣ x.natAbs → x.natAbs < 2 ^ 2000 → 0 < g ∧ g < 2 ^ 2000 := fun x hx hd hb => by
    have hp : 0 < x.natAbs := by omega
    exact ⟨Nat.pos_of_dvd_of_pos hd hp, Nat.lt_of_le_of_lt (Nat.le_of_dvd hp hd) hb⟩
  have r : 0 < g ∧ g < 2 ^ 2000 := by
    by_cases a : q.a = 0
    · by_cases b : q.b = 0
      · by_cases c : q.c = 0
        · by_cases d : q.d = 0
          · exact absurd (Hq.ext' a b c d) hz
          · exact fin _ d h4 hb.d
        · exact fin _ c h3 hb.c
      · exact fin _ b h2 hb.b
    · exact fin _ a h1 hb.a
  exact ⟨by omega, r.2⟩
def spContent (K : PySem.W.Frag) : Sp := fun vs H Q _ => ∃ v q, vs = [v] ∧ IsQ K v q H ∧ IsN q ∧ q ≠ zero ∧ Bd q ∧ ∀ H', Same H H' → Q (.int (contM q)) H'
theorem wideD {j : Int} (h : 0 < j) (hb : j.natAbs < 2 ^ 2000) : CDivW i j := wide_div h hb (by decide) (by decide)
theorem c_content (T : TopOk K mg) : Cal P w K mg base 4 "content" (spContent K) [] := by
  refine mkcal T.d_content sc_content (fun vs H Q E h => ?_) (fun f cdv A outer s H vs Q E hr h => ?_)
  · obtain ⟨v, q, rfl, _⟩ := h
    rfl
  · obtain ⟨v, q, rfl, hv, hn, hz, hb, k⟩ := h
    have hg := gcdQ_ok hz hb
    refine ⟨_, (pss_cons (ps_expr (pe_c (c_check_not_zero T) hr (by decide) rfl (pa_cons (pv 0) pa_nil)))
      (pss_cons (ps_set (i := 1) sc_content.nd rfl (Or.inr rfl) (pe_callBfun cr_gcd rfl T.g_gcd (pa_cons (pe_callBfun cr_gcd rfl T.g_gcd (pa_cons (pe_ix ix_tup (pv 0) pe_int (fun _ _ => rfl)) (pa_cons (pe_ix ix_tup (pv 0) pe_int (fun _ _ => rfl)) pa_nil))) (pa_cons (pe_callBfun cr_gcd rfl T.g_gcd (pa_cons (pe_ix ix_tup (pv 0) pe_int (fun _ _ => rfl)) (pa_cons (pe_ix ix_tup (pv 0) pe_int (fun _ _ => rfl)) pa_nil))) pa_nil))))
      (pss_cons (ps_if (pt_val (pe_c (c_is_numberL T) hr (by decide) rfl (pa_cons (pe_lc (own := [("part", 2)]) (g := gName 2) (tt := tYes) rfl sc_content.nd (pi_tup (pv 0)) (blkOk_by (N := N_content) (sc := fnScope s_content) (by decide +kernel)) (fun _ _ _ _ _ => (pg_name (i := 2) sc_content.nd rfl (Or.inl rfl))) (fun _ _ _ _ _ => pts_nil) (fun _ _ _ _ _ => (pe_op op_fdivW (pv 2) (pv 1)))) pa_nil))) (pss_one (ps_ret (pv 1))) pss_nil)
      (pss_one (ps_ret (pe_op op_fdiv (pv 1) pe_int)))))), ?_⟩
    refine ⟨v, rfl, v, q, rfl, hv, hn, hz, fun H1 s1 => ?_⟩
    obtain ⟨a, rfl, ha⟩ := hv.same s1
    refine ⟨_, rfl, a, _, 0, _, rfl, rfl, ha, atI_nat (j := 0) rfl, ?_⟩
    refine ⟨_, rfl, a, _, 1, _, rfl, rfl, ha, atI_nat (j := 1) rfl, ?_⟩
    refine ⟨q.a, q.b, rfl, ?_⟩
    refine ⟨_, rfl, a, _, 2, _, rfl, rfl, ha, atI_nat (j := 2) rfl, ?_⟩
    refine ⟨_, rfl, a, _, 3, _, rfl, rfl, ha, atI_nat (j := 3) rfl, ?_⟩
    refine ⟨q.c, q.d, rfl, ?_⟩
    refine ⟨_, _, rfl, ?_⟩
    refine ⟨_, rfl, a, rfl, ⟨_, ha⟩, fun D nD => lc_intsT ha nD (ql_len q) (fun x => x / gcdQ q) (fun n H2 Qk hn2 s2 k2 => ?_) (fun H2 s2 e2 => ?_)⟩
    · refine ⟨_, rfl, _, rfl, ?_⟩
      have hw := wideD (i := n) hg.1 hg.2
      exact ⟨n, gcdQ q, rfl, rfl, hw, k2⟩
    · refine ⟨D, divQ q (gcdQ q), rfl, SqL.of e2, fun H3 s3 => ⟨_, rfl, ?_⟩⟩
      have s13 := s1.trans (s2.trans s3)
      have k3 := k H3 s13
      unfold contM at k3
      by_cases c : IsN (divQ q (gcdQ q))
      · rw [decide_eq_true c]
        rw [if_pos c] at k3
        exact iteT ⟨_, rfl, k3⟩
      · rw [decide_eq_false c]
        rw [if_neg c] at k3
        exact iteF ⟨_, rfl, gcdQ q, 2, rfl, rfl, ⟨by decide, by decide⟩, k3⟩
def spPrim (K : PySem.W.Frag) : Sp := fun vs H Q _ => ∃ v q, vs = [v] ∧ IsQ K v q H ∧ IsN q ∧ q ≠ zero ∧ Bd q ∧ 0 < contM q ∧ ∀ u H', Same H H' → IsQ K u (divQ q (contM q)) H' → Q u H'
theorem contM_bd {q : Hq} (hz : q ≠ zero) (hb : Bd q) : (contM q).natAbs < 2 ^ 2000 := by
  have hg := gcdQ_ok hz hb
  unfold contM
  split
  · exact hg.2
  · exact Nat.lt_of_le_of_lt (by omega) hg.2
theorem c_primitive_part (T : TopOk K mg) : Cal P w K mg base 5 "primitive_part" (spPrim K) [] := by
  refine mkcal T.d_primitive_part sc_primitive_part (fun vs H Q E h => ?_) (fun f cdv A outer s H vs Q E hr h => ?_)
  · obtain ⟨v, q, rfl, _⟩ := h
    rfl
  · obtain ⟨v, q, rfl, hv, hn, hz, hb, hc, k⟩ := h
    have hcb := contM_bd hz hb
    refine ⟨_, (pss_cons (ps_set (i := 1) sc_primitive_part.nd rfl (Or.inr rfl) (pe_c (c_content T) hr (by decide) rfl (pa_cons (pv 0) pa_nil)))
      (pss_one (ps_ret (pe_callTy call_tuple_of (by rfl) T.m_tuple (by decide +kernel) (pa_cons (pe_lc (own := [("part", 2)]) (g := gName 2) (tt := tYes) rfl sc_primitive_part.nd (pi_tup (pv 0)) (blkOk_by (N := N_primitive_part) (sc := fnScope s_primitive_part) (by decide +kernel)) (fun _ _ _ _ _ => (pg_name (i := 2) sc_primitive_part.nd rfl (Or.inl rfl))) (fun _ _ _ _ _ => pts_nil) (fun _ _ _ _ _ => (pe_op op_fdivW (pv 2) (pv 1)))) pa_nil))))), ?_⟩
    refine ⟨v, rfl, v, q, rfl, hv, hn, hz, hb, fun H1 s1 => ?_⟩
    obtain ⟨a, rfl, ha⟩ := hv.same s1
    refine ⟨_, rfl, a, rfl, ⟨_, ha⟩, fun D nD => lc_intsT ha nD (ql_len q) (fun x => x / contM q) (fun n H2 Qk hn2 s2 k2 => ?_) (fun H2 s2 e2 => ?_)⟩
    · refine ⟨_, rfl, _, rfl, ?_⟩
      have hw := wideD (i := n) hc hcb
      exact ⟨n, contM q, rfl, rfl, hw, k2⟩
    · refine ⟨D, _, rfl, .inl ⟨SqL.of e2, fun l nl => ?_⟩⟩
      exact k _ _ (same_put (s1.trans s2) nl) (IsTI.new (ns := ql (divQ q (contM q))))

/-! ### distance_of, nearest -/
/-- parts below 2 ^ 50 -/
structure Bs (n : Nat) (q : Hq) : Prop where
  a : q.a.natAbs < 2 ^ n
  b : q.b.natAbs < 2 ^ n
  c : q.c.natAbs < 2 ^ n
  d : q.d.natAbs < 2 ^ n
theorem Bs.bd {n : Nat} {q : Hq} (h : Bs n q) (hn : n ≤ 2000) : Bd q := Bd.small hn ⟨h.a, h.b, h.c, h.d⟩
theorem Bs.mono {m n : Nat} {q : Hq} (h : Bs m q) (hn : m ≤ n) : Bs n q := by
  have h2 := Nat.pow_le_pow_right (n := 2) (by decide) hn
  exact ⟨Nat.lt_of_lt_of_le h.a h2, Nat.lt_of_lt_of_le h.b h2, Nat.lt_of_lt_of_le h.c h2, Nat.lt_of_lt_of_le h.d h2⟩
def spDist (K : PySem.W.Frag) : Sp := fun vs H Q _ => ∃ v n u x q, vs = [v, .int n, u] ∧ IsQ K v x H ∧ IsQ K u q H ∧ n.natAbs < 2 ^ 60 ∧
  (∀ y z, (y, z) ∈ (ql q).zip (ql x) → (n * y - z).natAbs < 2 ^ 60) ∧ ∀ H', Same H H' → Q (.int (distM x n q)) H'
theorem zip_sum (x q : Hq) (n : Int) : (List.zipWith (fun y z => (n * y - z) ^ 2) (ql q) (ql x)).sum = distM x n q := by
  simp only [ql, List.zipWith_cons_cons, List.zipWith_nil_left, List.sum_cons, List.sum_nil, distM]
theorem powx {i : Int} (h : i.natAbs < 2 ^ 60) : CPow i 2 := ⟨by decide, by decide, Nat.lt_trans h (by decide)⟩
theorem mul60 {i j : Int} (h : i.natAbs < 2 ^ 60) : CMul i j := .inl ⟨by omega, by omega⟩
theorem c_distance_of (T : TopOk K mg) : Cal P w K mg base 1 "distance_of" (spDist K) [] := by
  refine mkcal T.d_distance_of sc_distance_of (fun vs H Q E h => ?_) (fun f cdv A outer s H vs Q E hr h => ?_)
  · obtain ⟨v, n, u, x, q, rfl, _⟩ := h
    rfl
  · obtain ⟨v, n, u, x, q, rfl, hx, hq, hn, hb, k⟩ := h
    refine ⟨_, (pss_one (ps_ret (pe_callB (cr_sum rfl) (by rfl) T.m_sum (by decide +kernel) (pa_cons (pe_lc (own := [("near", 3), ("part", 4)]) (g := gTup K 2 (gCons (gName 3) (gCons (gName 4) gNil))) (tt := tYes) rfl sc_distance_of.nd (pi_zipA (by rfl) T.m_zip (pa_cons (pv 2) (pa_cons (pv 0) pa_nil))) (blkOk_by (N := N_distance_of) (sc := fnScope s_distance_of) (by decide +kernel)) (fun _ _ _ _ _ => (pg_tup rfl (pgs_cons (pg_name (i := 3) sc_distance_of.nd rfl (Or.inl rfl)) (pgs_cons (pg_name (i := 4) sc_distance_of.nd rfl (Or.inl rfl)) pgs_nil)))) (fun _ _ _ _ _ => pts_nil) (fun _ _ _ _ _ => (pe_op op_pow (pe_op op_sub (pe_op op_mul (pv 1) (pv 3)) (pv 4)) pe_int))) pa_nil)))), ?_⟩
    obtain ⟨a, rfl, ha⟩ := hx
    obtain ⟨b, rfl, hb'⟩ := hq
    refine ⟨_, rfl, _, rfl, b, a, (ql q).map V.int, (ql x).map V.int, rfl, .inr ⟨hb', ha, fun D nD => lc_zipT hb' ha rfl (by decide) nD (ql_len q) (fun y z => (n * y - z) ^ 2) (fun y z H3 Qk hm s3 k3 => ?_) (fun H3 s3 e3 => ?_)⟩⟩
    · have h1 : CMul n y := mul60 hn
      have h2 : CPow (n * y - z) 2 := powx (hb y z hm)
      refine ⟨_, rfl, _, rfl, ?_⟩
      refine ⟨n, y, rfl, rfl, h1, ?_⟩
      refine ⟨_, rfl, _, _, rfl, rfl, ?_⟩
      exact ⟨_, 2, rfl, rfl, h2, k3⟩
    · refine ⟨D, _, rfl, SqL.of e3, ?_⟩
      rw [zip_sum]
      exact k H3 s3
def spNearest (K : PySem.W.Frag) : Sp := fun vs H Q _ => ∃ v n x, vs = [v, .int n] ∧ IsQ K v x H ∧ 0 < n ∧ n.natAbs < 2 ^ 58 ∧ Bs 58 x ∧ ∀ u H', Same H H' → IsQ K u (nearM x n) H' → Q u H'
theorem c_nearest (T : TopOk K mg) : Cal P w K mg base 2 "nearest" (spNearest K) [] := by
  refine mkcal T.d_nearest sc_nearest (fun vs H Q E h => ?_) (fun f cdv A outer s H vs Q E hr h => ?_)
  · obtain ⟨v, n, x, rfl, _⟩ := h
    rfl
  · obtain ⟨v, n, x, rfl, hx, hn, hnb, hb, k⟩ := h
    have hn60 : n.natAbs < 2 ^ 60 := Nat.lt_trans hnb (by decide)
    have hw1 : ∀ i : Int, CDivW i (2 * n) := fun i => wide_div (b := 60) (by omega) (by omega) (by decide) (by decide)
    have h2n : CMul 2 n := .inl ⟨by decide, by decide⟩
    refine ⟨_, (pss_cons (ps_set (i := 2) sc_nearest.nd rfl (Or.inl rfl) (pe_callTy call_tuple_of (by rfl) T.m_tuple (by decide +kernel) (pa_cons (pe_lc (own := [("part", 6)]) (g := gName 6) (tt := tYes) rfl sc_nearest.nd (pi_tup (pv 0)) (blkOk_by (N := N_nearest) (sc := fnScope s_nearest) (by decide +kernel)) (fun _ _ _ _ _ => (pg_name (i := 6) sc_nearest.nd rfl (Or.inl rfl))) (fun _ _ _ _ _ => pts_nil) (fun _ _ _ _ _ => (pe_op op_mul pe_int (pe_op op_fdivW (pe_op op_add (pv 6) (pv 1)) (pe_op op_mul pe_int (pv 1)))))) pa_nil)))
      (pss_cons (ps_set (i := 3) sc_nearest.nd rfl (Or.inl rfl) (pe_callTy call_tuple_of (by rfl) T.m_tuple (by decide +kernel) (pa_cons (pe_lc (own := [("part", 6)]) (g := gName 6) (tt := tYes) rfl sc_nearest.nd (pi_tup (pv 0)) (blkOk_by (N := N_nearest) (sc := fnScope s_nearest) (by decide +kernel)) (fun _ _ _ _ _ => (pg_name (i := 6) sc_nearest.nd rfl (Or.inl rfl))) (fun _ _ _ _ _ => pts_nil) (fun _ _ _ _ _ => (pe_op op_add (pe_op op_mul pe_int (pe_op op_fdivW (pv 6) (pe_op op_mul pe_int (pv 1)))) pe_int))) pa_nil)))
      (pss_cons (ps_set (i := 4) sc_nearest.nd rfl (Or.inl rfl) (pe_c (c_distance_of T) hr (by decide) rfl (pa_cons (pv 0) (pa_cons (pv 1) (pa_cons (pv 2) pa_nil)))))
      (pss_cons (ps_set (i := 5) sc_nearest.nd rfl (Or.inl rfl) (pe_c (c_distance_of T) hr (by decide) rfl (pa_cons (pv 0) (pa_cons (pv 1) (pa_cons (pv 3) pa_nil)))))
      (pss_cons (ps_if (pt_cmpR op_eq (pv 4) (pv 5) (nomark _)) (pss_one (ps_ret (pe_callB (call_max2Q rfl hr.units) (by rfl) T.m_max (by decide +kernel) (pa_cons (pv 2) (pa_cons (pv 3) pa_nil))))) pss_nil)
      (pss_one (ps_ret (pe_ifExp (pt_cmpR op_lt (pv 4) (pv 5) (nomark _)) (pv 2) (pv 3))))))))), ?_⟩
    obtain ⟨a, rfl, ha⟩ := hx
    refine ⟨_, rfl, a, rfl, ⟨_, ha⟩, fun D nD => lc_intsT ha nD (ql_len x) (fun y => 2 * ((y + n) / (2 * n))) (fun y H2 Qk hy s2 k2 => ?_) (fun H2 s2 e2 => ?_)⟩
    · have h3 : CMul 2 ((y + n) / (2 * n)) := .inl ⟨by decide, by decide⟩
      have h4 := hw1 (y + n)
      refine ⟨_, rfl, _, rfl, ?_⟩
      refine ⟨y, n, rfl, rfl, ?_⟩
      refine ⟨_, rfl, 2, n, rfl, rfl, h2n, ?_⟩
      refine ⟨_, _, rfl, rfl, h4, ?_⟩
      exact ⟨2, _, rfl, rfl, h3, k2⟩
    refine ⟨D, _, rfl, .inl ⟨SqL.of e2, fun l nl => ?_⟩⟩
    have s3 := same_put (u := .tup (((ql x).map fun y => 2 * ((y + n) / (2 * n))).map V.int)) s2 nl
    have hwh : IsQ K (.ref l) (wholeM x n) (upd H2 l (.tup (((ql x).map fun y => 2 * ((y + n) / (2 * n))).map V.int))) := IsTI.new
    generalize upd H2 l (.tup (((ql x).map fun y => 2 * ((y + n) / (2 * n))).map V.int)) = H3 at s3 hwh ⊢
    have ha3 := SqT.same s3 ha
    refine ⟨_, rfl, a, rfl, ⟨_, ha3⟩, fun D nD => lc_intsT ha3 nD (ql_len x) (fun y => 2 * (y / (2 * n)) + 1) (fun y H4 Qk hy s4 k4 => ?_) (fun H4 s4 e4 => ?_)⟩
    · have h3 : CMul 2 (y / (2 * n)) := .inl ⟨by decide, by decide⟩
      have h4 := hw1 y
      refine ⟨_, rfl, ?_⟩
      refine ⟨_, rfl, 2, n, rfl, rfl, h2n, ?_⟩
      refine ⟨_, _, rfl, rfl, h4, ?_⟩
      refine ⟨2, _, rfl, rfl, h3, ?_⟩
      exact ⟨_, 1, rfl, rfl, k4⟩
    refine ⟨D, _, rfl, .inl ⟨SqL.of e4, fun m nm => ?_⟩⟩
    have s5 := same_put (u := .tup (((ql x).map fun y => 2 * (y / (2 * n)) + 1).map V.int)) s4 nm
    have hha : IsQ K (.ref m) (halfM x n) (upd H4 m (.tup (((ql x).map fun y => 2 * (y / (2 * n)) + 1).map V.int))) := IsTI.new
    generalize upd H4 m (.tup (((ql x).map fun y => 2 * (y / (2 * n)) + 1).map V.int)) = H5 at s5 hha ⊢
    have s35 := s3.trans s5
    have hx5 : IsQ K (.ref a) x H5 := ⟨a, rfl, SqT.same s35 ha⟩
    have hw5 := hwh.same s5
    have pb := fun y => part_bound y n hn
    refine ⟨_, rfl, _, rfl, _, rfl, .ref a, n, .ref l, x, wholeM x n, rfl, hx5, hw5, hn60, fun y z hm => ?_, fun H6 s6 => ?_⟩
    · have : ∃ t, y = 2 * ((t + n) / (2 * n)) ∧ z = t := by
        simp only [ql, wholeM, List.zip_cons_cons, List.zip_nil_right, List.mem_cons, Prod.mk.injEq, List.not_mem_nil, or_false] at hm
        rcases hm with ⟨rfl, rfl⟩ | ⟨rfl, rfl⟩ | ⟨rfl, rfl⟩ | ⟨rfl, rfl⟩ <;> exact ⟨_, rfl, rfl⟩
      obtain ⟨t, rfl, rfl⟩ := this
      exact Nat.lt_of_le_of_lt (pb z).1 hn60
    refine ⟨_, rfl, _, rfl, _, rfl, .ref a, n, .ref m, x, halfM x n, rfl, hx5.same s6, hha.same s6, hn60, fun y z hm => ?_, fun H7 s7 => ?_⟩
    · have : ∃ t, y = 2 * (t / (2 * n)) + 1 ∧ z = t := by
        simp only [ql, halfM, List.zip_cons_cons, List.zip_nil_right, List.mem_cons, Prod.mk.injEq, List.not_mem_nil, or_false] at hm
        rcases hm with ⟨rfl, rfl⟩ | ⟨rfl, rfl⟩ | ⟨rfl, rfl⟩ | ⟨rfl, rfl⟩ <;> exact ⟨_, rfl, rfl⟩
      obtain ⟨t, rfl, rfl⟩ := this
      exact Nat.lt_of_le_of_lt (pb z).2 hn60
    have s57 := s6.trans s7
    have hw7 := hw5.same s57
    have hh7 := hha.same s57
    have sF := s35.trans s57
    refine ⟨_, rfl, _, rfl, rfl, _, rfl, ?_⟩
    have er : nearM x n = if distM x n (wholeM x n) = distM x n (halfM x n) then (if ql (wholeM x n) < ql (halfM x n) then halfM x n else wholeM x n) else if distM x n (wholeM x n) < distM x n (halfM x n) then wholeM x n else halfM x n := rfl
    by_cases c : distM x n (wholeM x n) = distM x n (halfM x n)
    · rw [if_pos c] at er
      rw [show decide (V.int (distM x n (wholeM x n)) = V.int (distM x n (halfM x n))) = true by rw [c]; exact decide_eq_true rfl]
      refine iteT ⟨_, rfl, _, rfl, _, _, _, _, rfl, hw7, hh7, ?_⟩
      by_cases c2 : ql (wholeM x n) < ql (halfM x n)
      · rw [if_pos c2] at er ⊢
        exact k _ _ sF (by rw [er]; exact hh7)
      · rw [if_neg c2] at er ⊢
        exact k _ _ sF (by rw [er]; exact hw7)
    · rw [if_neg c] at er
      rw [show decide (V.int (distM x n (wholeM x n)) = V.int (distM x n (halfM x n))) = false from decide_eq_false fun z => c (V.int.inj z)]
      refine iteF ⟨_, rfl, _, rfl, _, _, rfl, rfl, _, rfl, ?_⟩
      by_cases c2 : distM x n (wholeM x n) < distM x n (halfM x n)
      · rw [if_pos c2] at er
        rw [decide_eq_true c2]
        exact iteT ⟨_, rfl, k _ _ sF (by rw [er]; exact hw7)⟩
      · rw [if_neg c2] at er
        rw [decide_eq_false c2]
        exact iteF ⟨_, rfl, k _ _ sF (by rw [er]; exact hh7)⟩

/-! ### bounds -/
theorem mul_lt2 {x y : Int} {m n : Nat} (hx : x.natAbs < 2 ^ m) (hy : y.natAbs < 2 ^ n) : (x * y).natAbs < 2 ^ (m + n) := wide_lt hx hy
theorem pow2 (k : Nat) : 2 ^ (k + 2) = 4 * 2 ^ k := by rw [Nat.pow_add, Nat.mul_comm]
theorem bs_mul {p q : Hq} {m n : Nat} (hp : Bs m p) (hq : Bs n q) : Bs (m + n + 2) (mul p q) := by
  have h : ∀ a b c d : Int, a.natAbs < 2 ^ (m + n) → b.natAbs < 2 ^ (m + n) → c.natAbs < 2 ^ (m + n) → d.natAbs < 2 ^ (m + n) → ∀ x : Int, x.natAbs ≤ a.natAbs + b.natAbs + c.natAbs + d.natAbs → (x / 2).natAbs < 2 ^ (m + n + 2) := fun a b c d ha hb hc hd x hx => by
    have h1 := Int.natAbs_ediv_le_natAbs x 2
    rw [pow2]
    omega
  refine ⟨h _ _ _ _ (mul_lt2 hp.a hq.a) (mul_lt2 hp.b hq.b) (mul_lt2 hp.c hq.c) (mul_lt2 hp.d hq.d) _ ?_, h _ _ _ _ (mul_lt2 hp.a hq.b) (mul_lt2 hp.b hq.a) (mul_lt2 hp.c hq.d) (mul_lt2 hp.d hq.c) _ ?_,
    h _ _ _ _ (mul_lt2 hp.a hq.c) (mul_lt2 hp.b hq.d) (mul_lt2 hp.c hq.a) (mul_lt2 hp.d hq.b) _ ?_, h _ _ _ _ (mul_lt2 hp.a hq.d) (mul_lt2 hp.b hq.c) (mul_lt2 hp.c hq.b) (mul_lt2 hp.d hq.a) _ ?_⟩ <;>
  simp only [raw1, raw2, raw3, raw4] <;> omega
theorem bs_sub {p q : Hq} {m : Nat} (hp : Bs m p) (hq : Bs m q) : Bs (m + 1) (TP.sub p q) := by
  have h : ∀ a b : Int, a.natAbs < 2 ^ m → b.natAbs < 2 ^ m → (a - b).natAbs < 2 ^ (m + 1) := fun a b ha hb => by
    rw [Nat.pow_succ]; omega
  exact ⟨h _ _ hp.a hq.a, h _ _ hp.b hq.b, h _ _ hp.c hq.c, h _ _ hp.d hq.d⟩
theorem bs_cj {q : Hq} {m : Nat} (h : Bs m q) : Bs m (cj q) := by
  refine ⟨h.a, ?_, ?_, ?_⟩ <;> simp only [cj, Int.natAbs_neg]
  · exact h.b
  · exact h.c
  · exact h.d
theorem bs_near {x : Hq} {n : Int} {m : Nat} (hx : Bs m x) (hn : n.natAbs < 2 ^ m) : Bs (m + 2) (nearM x n) := by
  have h1 : ∀ y : Int, y.natAbs < 2 ^ m → (2 * ((y + n) / (2 * n))).natAbs < 2 ^ (m + 2) := fun y hy => by
    have := Int.natAbs_ediv_le_natAbs (y + n) (2 * n)
    rw [pow2]; omega
  have h2 : ∀ y : Int, y.natAbs < 2 ^ m → (2 * (y / (2 * n)) + 1).natAbs < 2 ^ (m + 2) := fun y hy => by
    have := Int.natAbs_ediv_le_natAbs y (2 * n)
    rw [pow2]; omega
  rcases near_or x n with e | e <;> rw [e]
  · exact ⟨h1 _ hx.a, h1 _ hx.b, h1 _ hx.c, h1 _ hx.d⟩
  · exact ⟨h2 _ hx.a, h2 _ hx.b, h2 _ hx.c, h2 _ hx.d⟩
theorem nrm_lt {q : Hq} {m : Nat} (h : Bs m q) : (nrm q).natAbs < 2 ^ (m + m) := by
  have h1 := mul_lt2 h.a h.a
  have h2 := mul_lt2 h.b h.b
  have h3 := mul_lt2 h.c h.c
  have h4 := mul_lt2 h.d h.d
  have h0 := n4_nonneg q
  unfold nrm
  unfold n4 at *
  generalize q.a * q.a = A at *
  generalize q.b * q.b = B at *
  generalize q.c * q.c = C at *
  generalize q.d * q.d = D at *
  omega

/-! ### check_pair, divided_left, left_quotient -/
def spPair (K : PySem.W.Frag) : Sp := fun vs H Q _ => ∃ v u p d, vs = [v, u] ∧ IsQ K v p H ∧ IsQ K u d H ∧ IsN p ∧ IsN d ∧ d ≠ zero ∧ ∀ H', Same H H' → Q .non H'
theorem c_check_pair (T : TopOk K mg) : Cal P w K mg base 4 "check_pair" (spPair K) [] := by
  refine mkcal T.d_check_pair sc_check_pair (fun vs H Q E h => ?_) (fun f cdv A outer s H vs Q E hr h => ?_)
  · obtain ⟨v, u, p, d, rfl, _⟩ := h
    rfl
  · obtain ⟨v, u, p, d, rfl, hv, hu, hp, hd, hz, k⟩ := h
    refine ⟨_, (pss_cons (ps_expr (pe_c (c_check_number T) hr (by decide) rfl (pa_cons (pv 0) pa_nil)))
      (pss_one (ps_expr (pe_c (c_check_not_zero T) hr (by decide) rfl (pa_cons (pv 1) pa_nil))))), ?_⟩
    exact ⟨v, rfl, v, p, rfl, hv, hp, fun H1 s1 => ⟨u, rfl, u, d, rfl, hu.same s1, hd, hz, fun H2 s2 => k H2 (s1.trans s2)⟩⟩
def spDivL (K : PySem.W.Frag) : Sp := fun vs H Q _ => ∃ v u p d, vs = [v, u] ∧ IsQ K v p H ∧ IsQ K u d H ∧ IsN p ∧ IsN d ∧ d ≠ zero ∧ Bs 20 p ∧ Bs 20 d ∧
  ∀ t x y H', Same H H' → SqT K H' t [x, y] → IsQ K x (quoM p d) H' → IsQ K y (restM p d) H' → Q (.ref t) H'
theorem c_divided_left (T : TopOk K mg) : Cal P w K mg base 5 "divided_left" (spDivL K) [] := by
  refine mkcal T.d_divided_left sc_divided_left (fun vs H Q E h => ?_) (fun f cdv A outer s H vs Q E hr h => ?_)
  · obtain ⟨v, u, p, d, rfl, _⟩ := h
    rfl
  · obtain ⟨v, u, p, d, rfl, hv, hu, hp, hd, hz, bp, bd, k⟩ := h
    have hx : Bs 42 (mul (cj d) p) := bs_mul (m := 20) (n := 20) (bs_cj bd) bp
    have hn := nrm_lt bd
    have hn0 := nrm_pos hd hz
    have hq : Bs 44 (quoM p d) := bs_near hx (Nat.lt_trans hn (by decide))
    have hqn : IsN (quoM p d) := near_isN _ _
    have hm : Bs 66 (mul d (quoM p d)) := bs_mul bd hq
    refine ⟨_, (pss_cons (ps_expr (pe_c (c_check_pair T) hr (by decide) rfl (pa_cons (pv 0) (pa_cons (pv 1) pa_nil))))
      (pss_cons (ps_set (i := 2) sc_divided_left.nd rfl (Or.inl rfl) (pe_c (c_nearest T) hr (by decide) rfl (pa_cons (pe_c (c_product T) hr (by decide) rfl (pa_cons (pe_c (c_conjugate T) hr (by decide) rfl (pa_cons (pv 1) pa_nil)) (pa_cons (pv 0) pa_nil))) (pa_cons (pe_c (c_norm T) hr (by decide) rfl (pa_cons (pv 1) pa_nil)) pa_nil))))
      (pss_one (ps_ret (pe_tup (pa_cons (pv 2) (pa_cons (pe_c (c_less T) hr (by decide) rfl (pa_cons (pv 0) (pa_cons (pe_c (c_product T) hr (by decide) rfl (pa_cons (pv 1) (pa_cons (pv 2) pa_nil))) pa_nil))) pa_nil))))))), ?_⟩
    refine ⟨v, rfl, u, rfl, v, u, p, d, rfl, hv, hu, hp, hd, hz, fun H1 s1 => ?_⟩
    refine ⟨u, rfl, u, d, rfl, hu.same s1, hd, fun c H2 s2 hc => ?_⟩
    have s12 := s1.trans s2
    refine ⟨v, rfl, c, v, cj d, p, rfl, hc, hv.same s12, cj_isN hd, hp, (bs_cj bd).bd (by decide), bp.bd (by decide), fun x H3 s3 hx3 => ?_⟩
    have s13 := s12.trans s3
    refine ⟨u, rfl, u, d, rfl, hu.same s13, hd, bd.bd (by decide), fun H4 s4 => ?_⟩
    have s14 := s13.trans s4
    refine ⟨x, nrm d, mul (cj d) p, rfl, (hx3.same s4).ti, hn0, Nat.lt_trans hn (by decide), hx.mono (by decide), fun qv H5 s5 hq5 => ?_⟩
    have s15 := s14.trans s5
    refine ⟨qv, rfl, v, rfl, u, rfl, qv, rfl, ?_⟩
    refine ⟨u, qv, d, quoM p d, rfl, hu.same s15, hq5, hd, hqn, bd.bd (by decide), hq.bd (by decide), fun z H6 s6 hz6 => ?_⟩
    have s16 := s15.trans s6
    refine ⟨v, z, p, mul d (quoM p d), rfl, hv.same s16, hz6.ti, hp, mul_isN hd hqn, fun r H7 s7 hr7 => ?_⟩
    have s17 := s16.trans s7
    refine ⟨by show 2 ≤ sizeLine; decide, fun t nt => ?_⟩
    have sN := same_new (o := .tup [qv, r]) nt
    exact k t qv r _ (s17.trans sN) (SqT.of upd_same) (hq5.same ((s6.trans s7).trans sN)) (hr7.same sN)
def spLQ (K : PySem.W.Frag) : Sp := fun vs H Q _ => ∃ v u p d, vs = [v, u] ∧ IsQ K v p H ∧ IsQ K u d H ∧ IsN p ∧ IsN d ∧ d ≠ zero ∧ Bs 20 p ∧ Bs 20 d ∧ restM p d = zero ∧ ∀ x H', Same H H' → IsQ K x (quoM p d) H' → Q x H'
theorem c_left_quotient (T : TopOk K mg) : Cal P w K mg base 6 "left_quotient" (spLQ K) [] := by
  refine mkcal T.d_left_quotient sc_left_quotient (fun vs H Q E h => ?_) (fun f cdv A outer s H vs Q E hr h => ?_)
  · obtain ⟨v, u, p, d, rfl, _⟩ := h
    rfl
  · obtain ⟨v, u, p, d, rfl, hv, hu, hp, hd, hz, bp, bd, he, k⟩ := h
    obtain ⟨aZ, gZ, tZ⟩ := T.g_ZERO_dividing
    refine ⟨_, (pss_cons (ps_asg (pe_c (c_divided_left T) hr (by decide) rfl (pa_cons (pv 0) (pa_cons (pv 1) pa_nil))) (pg_tup rfl (pgs_cons (pg_name (i := 2) sc_left_quotient.nd rfl (Or.inl rfl)) (pgs_cons (pg_name (i := 3) sc_left_quotient.nd rfl (Or.inl rfl)) pgs_nil))))
      (pss_one (ps_ret (pe_ifExp (pt_cmpR (op_eqT hr.units) (pv 3) (pe_gc (v := .ref aZ) rfl ⟨_, gZ, rfl⟩) (nomark _)) (pv 2) pe_non)))), ?_⟩
    refine ⟨v, rfl, u, rfl, v, u, p, d, rfl, hv, hu, hp, hd, hz, bp, bd, fun t x y H1 s1 ht hx hy => ?_⟩
    refine ⟨t, _, rfl, ht, rfl, _, _, rfl, _, _, rfl, rfl, ?_⟩
    refine ⟨y, rfl, ql (restM p d), ql zero, hy, ⟨aZ, rfl, tZ _⟩, true, by rw [he]; rfl, iteT ⟨x, rfl, k x H1 s1 hx⟩⟩
end
end TPW
namespace TPW
open PySem PySem.Spec PyProof.Rows L2 TP
open RZ (ItzT pi_zipA iZipA)
open C8 (Cal Def cal0 pe_c fnScope fnBody fnArgs fnScope_by pe_gc)
theorem bs_of_nrm {q : Hq} (h : IsN q) (hb : nrm q < 2 ^ 38) : Bs 20 q := by
  have e := nrm_core h
  have f : ∀ x : Int, x * x < 2 ^ 40 → x.natAbs < 2 ^ 20 := fun x hx => by
    rcases Nat.lt_or_ge x.natAbs (2 ^ 20) with c | c
    · exact c
    · have h2 : (2 ^ 20) * (2 ^ 20) ≤ x.natAbs * x.natAbs := Nat.mul_le_mul c c
      have h3 : (x.natAbs * x.natAbs : Nat) = (x * x).natAbs := (Int.natAbs_mul x x).symm
      have h4 := sq_nn x
      rw [h3] at h2
      omega
  have ha := sq_nn q.a
  have hb := sq_nn q.b
  have hc := sq_nn q.c
  have hd := sq_nn q.d
  unfold n4 at e
  exact ⟨f _ (by omega), f _ (by omega), f _ (by omega), f _ (by omega)⟩
/-- g is a greatest common left divisor -/
def Gcd (p d g : Hq) : Prop := (∀ e, IsN e → LD e p → LD e d → LD e g) ∧ LD g p ∧ LD g d
structure StepI (p d r0 m0 k0 r1 m1 k1 : Hq) : Prop where
  n0 : IsN r0
  n1 : IsN r1
  nm0 : IsN m0
  nk0 : IsN k0
  nm1 : IsN m1
  nk1 : IsN k1
  b0 : Bs 20 r0
  bnd : ∃ e : Nat, nrm r1 < 2 ^ e ∧ e ≤ 38 ∧ Bs (1900 - 47 * e) m0 ∧ Bs (1900 - 47 * e) k0 ∧ Bs (1900 - 47 * e) m1 ∧ Bs (1900 - 47 * e) k1
  fwd : ∀ e, IsN e → LD e p → LD e d → LD e r0 ∧ LD e r1
  bck : ∀ e, IsN e → LD e r0 → LD e r1 → LD e p ∧ LD e d
theorem StepI.b1 {p d r0 m0 k0 r1 m1 k1 : Hq} (h : StepI p d r0 m0 k0 r1 m1 k1) : Bs 20 r1 := by
  obtain ⟨e, h1, h2, _⟩ := h.bnd
  have h3 : (2 : Int) ^ e ≤ 2 ^ 38 := by
    have := Nat.pow_le_pow_right (n := 2) (by decide) h2
    exact_mod_cast this
  exact bs_of_nrm h.n1 (by omega)
theorem StepI.start {p d : Hq} (hp : IsN p) (hd : IsN d) (bp : Bs 20 p) (bd : nrm d < 2 ^ 38) : StepI p d p one zero d zero one := by
  have b1 : Bs 114 one := ⟨by decide, by decide, by decide, by decide⟩
  have b0 : Bs 114 zero := ⟨by decide, by decide, by decide, by decide⟩
  exact ⟨hp, hd, one_isN, zero_isN, zero_isN, one_isN, bp, ⟨38, bd, by decide, b1, b0, b0, b1⟩, fun e _ h1 h2 => ⟨h1, h2⟩, fun e _ h1 h2 => ⟨h1, h2⟩⟩
theorem StepI.mb {p d r0 m0 k0 r1 m1 k1 : Hq} (h : StepI p d r0 m0 k0 r1 m1 k1) : Bd m0 ∧ Bd k0 ∧ Bd m1 ∧ Bd k1 := by
  obtain ⟨e, _, _, h1, h2, h3, h4⟩ := h.bnd
  exact ⟨h1.bd (by omega), h2.bd (by omega), h3.bd (by omega), h4.bd (by omega)⟩
theorem quo_bs {p d : Hq} (hd : IsN d) (hz : d ≠ zero) (bp : Bs 20 p) (bd : Bs 20 d) : Bs 44 (quoM p d) := bs_near (m := 42) (bs_mul (m := 20) (n := 20) (bs_cj bd) bp) (Nat.lt_trans (nrm_lt bd) (by decide))
theorem StepI.next {p d r0 m0 k0 r1 m1 k1 : Hq} (h : StepI p d r0 m0 k0 r1 m1 k1) (hz : r1 ≠ zero) :
    StepI p d r1 m1 k1 (restM r0 r1) (TP.sub m0 (mul m1 (quoM r0 r1))) (TP.sub k0 (mul k1 (quoM r0 r1))) ∧ nrm (restM r0 r1) < nrm r1 ∧ 0 < nrm r1 := by
  have hq : IsN (quoM r0 r1) := near_isN _ _
  have bq := quo_bs h.n1 hz h.b0 h.b1
  have hpos := nrm_pos h.n1 hz
  have hhalf := rest_half h.n0 h.n1 hz
  have hnn := nrm_nonneg (restM r0 r1)
  obtain ⟨e, h1, h2, b1, b2, b3, b4⟩ := h.bnd
  obtain ⟨e', rfl⟩ : ∃ e', e = e' + 1 := by
    cases e with
    | zero => simp at h1; omega
    | succ e' => exact ⟨e', rfl⟩
  have hb : ∀ m k : Hq, Bs (1900 - 47 * (e' + 1)) m → Bs (1900 - 47 * (e' + 1)) k → Bs (1900 - 47 * e') (TP.sub m (mul k (quoM r0 r1))) := fun m k hm hk => by
    have x := bs_mul hk bq
    exact (bs_sub (m := 1900 - 47 * (e' + 1) + 44 + 2) (hm.mono (by omega)) x).mono (by omega)
  refine ⟨⟨h.n1, rest_isN h.n0 h.n1, h.nm1, h.nk1, sub_isN h.nm0 (mul_isN h.nm1 hq), sub_isN h.nk0 (mul_isN h.nk1 hq), h.b1, ⟨e', ?_, by omega, b3.mono (by omega), b4.mono (by omega), hb _ _ b1 b3, hb _ _ b2 b4⟩, fun x hx h3 h4 => ?_, fun x hx h3 h4 => ?_⟩, by omega, hpos⟩
  · have : (2 : Int) ^ (e' + 1) = 2 * 2 ^ e' := by rw [Int.pow_succ]; omega
    omega
  · obtain ⟨q1, q2⟩ := h.fwd x hx h3 h4
    exact ⟨q2, LD.fwd hx q1 q2⟩
  · exact h.bck x hx (LD.back hx h3 h4) h3
theorem StepI.done {p d r0 m0 k0 m1 k1 : Hq} (h : StepI p d r0 m0 k0 zero m1 k1) : Gcd p d r0 :=
  ⟨fun e he h1 h2 => (h.fwd e he h1 h2).1, h.bck r0 h.n0 (LD.refl r0) (LD.zero r0)⟩
section
variable {P : Program} {w : World} {K : PySem.W.Frag} {mg : Str → Option Value} {base : Heap}
def spSteps (K : PySem.W.Frag) : Sp := fun vs H Q _ => ∃ v u p d, vs = [v, u] ∧ IsQ K v p H ∧ IsQ K u d H ∧ IsN p ∧ IsN d ∧ Bs 20 p ∧ nrm d < 2 ^ 38 ∧
  ∀ t tn z a b c g H', Same H H' → SqT K H' t [.ref tn, z] → SqT K H' tn [a, b, c] → IsQ K a g H' → IsN g → Bs 20 g → Gcd p d g → Q (.ref t) H'
theorem c_steps_of (T : TopOk K mg) : Cal P w K mg base 6 "steps_of" (spSteps K) [] := by
  refine mkcal T.d_steps_of sc_steps_of (fun vs H Q E h => ?_) (fun f cdv A outer s H vs Q E hr h => ?_)
  · obtain ⟨v, u, p, d, rfl, _⟩ := h
    rfl
  · obtain ⟨v, u, p, d, rfl, hv, hu, hp, hd, bp, bd, k⟩ := h
    obtain ⟨aZ, gZ, tZ⟩ := T.g_ZERO_numbers
    obtain ⟨aO, gO, tO⟩ := T.g_ONE
    refine ⟨_, (pss_cons (ps_set (i := 2) sc_steps_of.nd rfl (Or.inl rfl) (pe_tup (pa_cons (pe_callTy call_tuple_of (by rfl) T.m_tuple (by decide +kernel) (pa_cons (pv 0) pa_nil)) (pa_cons (pe_gc (v := .ref aO) rfl ⟨_, gO, rfl⟩) (pa_cons (pe_gc (v := .ref aZ) rfl ⟨_, gZ, rfl⟩) pa_nil)))))
      (pss_cons (ps_set (i := 3) sc_steps_of.nd rfl (Or.inl rfl) (pe_tup (pa_cons (pe_callTy call_tuple_of (by rfl) T.m_tuple (by decide +kernel) (pa_cons (pv 1) pa_nil)) (pa_cons (pe_gc (v := .ref aZ) rfl ⟨_, gZ, rfl⟩) (pa_cons (pe_gc (v := .ref aO) rfl ⟨_, gO, rfl⟩) pa_nil)))))
      (pss_cons (ps_while PassesOwn.never (pt_cmpR (op_neT hr.units) (pe_ix ix_tup (pv 3) pe_int (fun _ _ => rfl)) (pe_gc (v := .ref aZ) rfl ⟨_, gZ, rfl⟩) (nomark _)) (pss_cons (ps_asg (pe_c (c_divided_left T) hr (by decide) rfl (pa_cons (pe_ix ix_tup (pv 2) pe_int (fun _ _ => rfl)) (pa_cons (pe_ix ix_tup (pv 3) pe_int (fun _ _ => rfl)) pa_nil))) (pg_tup rfl (pgs_cons (pg_name (i := 4) sc_steps_of.nd rfl (Or.inl rfl)) (pgs_cons (pg_name (i := 5) sc_steps_of.nd rfl (Or.inl rfl)) pgs_nil))))
      (pss_cons (ps_set (i := 6) sc_steps_of.nd rfl (Or.inl rfl) (pe_c (c_less T) hr (by decide) rfl (pa_cons (pe_ix ix_tup (pv 2) pe_int (fun _ _ => rfl)) (pa_cons (pe_c (c_product T) hr (by decide) rfl (pa_cons (pe_ix ix_tup (pv 3) pe_int (fun _ _ => rfl)) (pa_cons (pv 4) pa_nil))) pa_nil))))
      (pss_cons (ps_set (i := 7) sc_steps_of.nd rfl (Or.inl rfl) (pe_c (c_less T) hr (by decide) rfl (pa_cons (pe_ix ix_tup (pv 2) pe_int (fun _ _ => rfl)) (pa_cons (pe_c (c_product T) hr (by decide) rfl (pa_cons (pe_ix ix_tup (pv 3) pe_int (fun _ _ => rfl)) (pa_cons (pv 4) pa_nil))) pa_nil))))
      (pss_one (ps_par (i := 2) (j := 3) (by rfl) sc_steps_of.nd rfl rfl (by decide) rfl rfl (pa_cons (pv 3) (pa_cons (pe_tup (pa_cons (pv 5) (pa_cons (pv 6) (pa_cons (pv 7) pa_nil)))) pa_nil)) (by rfl)))))))
      (pss_one (ps_ret (pe_tup (pa_cons (pv 2) (pa_cons (pv 3) pa_nil)))))))), ?_⟩
    obtain ⟨av, rfl, hav⟩ := hv
    obtain ⟨au, rfl, hau⟩ := hu
    have iZ : ∀ H, IsQ K (.ref aZ) zero H := fun H => ⟨aZ, rfl, tZ H⟩
    have iO : ∀ H, IsQ K (.ref aO) one H := fun H => ⟨aO, rfl, tO H⟩
    refine ⟨_, rfl, av, _, rfl, .inr ⟨hav, by show 3 ≤ sizeLine; decide, fun t0 n0 => ?_⟩⟩
    have s0 := same_new (o := .tup [.ref av, .ref aO, .ref aZ]) n0
    have ht0 : SqT K (upd H t0 (.tup [.ref av, .ref aO, .ref aZ])) t0 [.ref av, .ref aO, .ref aZ] := SqT.of upd_same
    generalize upd H t0 (.tup [.ref av, .ref aO, .ref aZ]) = H1 at s0 ht0 ⊢
    refine ⟨_, rfl, au, _, rfl, .inr ⟨SqT.same s0 hau, by show 3 ≤ sizeLine; decide, fun t1 n1 => ?_⟩⟩
    have s1 := same_new (o := .tup [.ref au, .ref aZ, .ref aO]) n1
    have ht1 : SqT K (upd H1 t1 (.tup [.ref au, .ref aZ, .ref aO])) t1 [.ref au, .ref aZ, .ref aO] := SqT.of upd_same
    generalize upd H1 t1 (.tup [.ref au, .ref aZ, .ref aO]) = H2 at s1 ht1 ⊢
    have s02 := s0.trans s1
    refine ⟨fun m σ H' => ∃ tn tf a b c x y z q1 q2 q3 q4 r0 m0 k0 r1 m1 k1, σ = [some (.ref av), some (.ref au), some (.ref tn), some (.ref tf), q1, q2, q3, q4] ∧ Same H H' ∧ SqT K H' tn [a, b, c] ∧ SqT K H' tf [x, y, z] ∧
        IsQ K a r0 H' ∧ IsQ K b m0 H' ∧ IsQ K c k0 H' ∧ IsQ K x r1 H' ∧ IsQ K y m1 H' ∧ IsQ K z k1 H' ∧ StepI p d r0 m0 k0 r1 m1 k1 ∧ m = (nrm r1).toNat,
      ⟨_, t0, t1, _, _, _, _, _, _, _, _, _, _, p, one, zero, d, zero, one, rfl, s02, SqT.same s1 ht0, ht1, ⟨av, rfl, SqT.same s02 hav⟩, iO _, iZ _, ⟨au, rfl, SqT.same s02 hau⟩, iZ _, iO _, .start hp hd bp bd, rfl⟩, ?_⟩
    rintro m σ H' ⟨tn, tf, a, b, c, x, y, z, q1, q2, q3, q4, r0, m0, k0, r1, m1, k1, rfl, sH, hn, hf, ha, hb, hc, hx, hy, hz, hI, rfl⟩
    refine ⟨_, rfl, tf, _, 0, x, rfl, rfl, hf, atI_nat (j := 0) rfl, ?_⟩
    refine ⟨ql r1, ql zero, hx, iZ _, _, rfl, ?_⟩
    by_cases e : r1 = zero
    · subst e
      rw [decide_eq_true (show ql zero = ql zero from rfl)]
      refine iteF ⟨_, rfl, _, rfl, by show 2 ≤ sizeLine; decide, fun t nt => ?_⟩
      have sN := same_new (o := .tup [.ref tn, .ref tf]) nt
      exact k t tn (.ref tf) a b c r0 _ (sH.trans sN) (SqT.of upd_same) (SqT.same sN hn) (ha.same sN) hI.n0 hI.b0 hI.done
    · rw [decide_eq_false (fun q => e (ql_inj q))]
      obtain ⟨hI2, hlt, hpos⟩ := hI.next e
      obtain ⟨bm0, bk0, bm1, bk1⟩ := hI.mb
      have bq := (quo_bs hI.n1 e hI.b0 hI.b1).bd (by decide)
      have nq : IsN (quoM r0 r1) := near_isN _ _
      have hnn := nrm_nonneg (restM r0 r1)
      refine iteT ⟨fun σ' H'' => ∃ m', m' < (nrm r1).toNat ∧ ∃ tn tf a b c x y z q1 q2 q3 q4 r0 m0 k0 r1 m1 k1, σ' = [some (.ref av), some (.ref au), some (.ref tn), some (.ref tf), q1, q2, q3, q4] ∧ Same H H'' ∧ SqT K H'' tn [a, b, c] ∧ SqT K H'' tf [x, y, z] ∧
        IsQ K a r0 H'' ∧ IsQ K b m0 H'' ∧ IsQ K c k0 H'' ∧ IsQ K x r1 H'' ∧ IsQ K y m1 H'' ∧ IsQ K z k1 H'' ∧ StepI p d r0 m0 k0 r1 m1 k1 ∧ m' = (nrm r1).toNat, fun σ' H'' h => h, ?_⟩
      refine ⟨_, rfl, tn, _, 0, a, rfl, rfl, hn, atI_nat (j := 0) rfl, ?_⟩
      refine ⟨_, rfl, tf, _, 0, x, rfl, rfl, hf, atI_nat (j := 0) rfl, ?_⟩
      refine ⟨a, x, r0, r1, rfl, ha, hx, hI.n0, hI.n1, e, hI.b0, hI.b1, fun t qv rv H3 s3 ht hqv hrv => ?_⟩
      refine ⟨t, _, rfl, ht, rfl, _, _, rfl, _, _, rfl, rfl, ?_⟩
      simp only [List.set_cons_succ, List.set_cons_zero]
      -- first
      have hn3 := SqT.same s3 hn
      have hf3 := SqT.same s3 hf
      refine ⟨_, rfl, tn, _, 1, b, rfl, rfl, hn3, atI_nat (j := 1) rfl, ?_⟩
      refine ⟨_, rfl, tf, _, 1, y, rfl, rfl, hf3, atI_nat (j := 1) rfl, ?_⟩
      refine ⟨qv, rfl, y, qv, m1, quoM r0 r1, rfl, hy.same s3, hqv, hI.nm1, nq, bm1, bq, fun z1 H4 s4 hz1 => ?_⟩
      refine ⟨b, z1, m0, mul m1 (quoM r0 r1), rfl, hb.same (s3.trans s4), hz1.ti, hI.nm0, mul_isN hI.nm1 nq, fun f1 H5 s5 hf1 => ?_⟩
      simp only [List.set_cons_succ, List.set_cons_zero]
      have s35 := s3.trans (s4.trans s5)
      have hn5 := SqT.same s35 hn
      have hf5 := SqT.same s35 hf
      refine ⟨_, rfl, tn, _, 2, c, rfl, rfl, hn5, atI_nat (j := 2) rfl, ?_⟩
      refine ⟨_, rfl, tf, _, 2, z, rfl, rfl, hf5, atI_nat (j := 2) rfl, ?_⟩
      refine ⟨qv, rfl, z, qv, k1, quoM r0 r1, rfl, hz.same s35, hqv.same (s4.trans s5), hI.nk1, nq, bk1, bq, fun z2 H6 s6 hz2 => ?_⟩
      refine ⟨c, z2, k0, mul k1 (quoM r0 r1), rfl, hc.same (s35.trans s6), hz2.ti, hI.nk0, mul_isN hI.nk1 nq, fun f2 H7 s7 hf2 => ?_⟩
      simp only [List.set_cons_succ, List.set_cons_zero]
      have s57 := s6.trans s7
      have s37 := s35.trans s57
      refine ⟨_, rfl, rv, rfl, f1, rfl, f2, rfl, by show 3 ≤ sizeLine; decide, fun tt nt => ?_⟩
      have sN := same_new (o := .tup [rv, f1, f2]) nt
      have s3N := s37.trans sN
      have s5N := s57.trans sN
      refine ⟨_, _, rfl, (nrm (restM r0 r1)).toNat, by omega, tf, tt, x, y, z, rv, f1, f2, _, _, _, _, r1, m1, k1, restM r0 r1, _, _, rfl, sH.trans s3N, SqT.same s3N hf, SqT.of upd_same, hx.same s3N, hy.same s3N, hz.same s3N, hrv.same ((s4.trans s5).trans s5N), hf1.same s5N, hf2.same sN, hI2, rfl⟩

theorem bools_of {ys : List V} {bs : List Bool} {H : Hp} (h : Paired (fun y b => y = V.bl b) ys bs) : ys = bs.map V.bl := by
  induction h with
  | nil => rfl
  | cons r _ ih => rw [r, ih]; rfl
def spSome (K : PySem.W.Frag) : Sp := fun vs H Q _ => ∃ a v u p d, vs = [.ref a] ∧ SqL K H a [v, u] ∧ IsQ K v p H ∧ IsQ K u d H ∧ IsN p ∧ IsN d ∧ d ≠ zero ∧ ∀ H', Same H H' → Q .non H'
theorem c_check_some (T : TopOk K mg) : Cal P w K mg base 3 "check_some" (spSome K) [] := by
  refine mkcal T.d_check_some sc_check_some (fun vs H Q E h => ?_) (fun f cdv A outer s H vs Q E hr h => ?_)
  · obtain ⟨a, v, u, p, d, rfl, _⟩ := h
    rfl
  · obtain ⟨a, v, u, p, d, rfl, hS, hv, hu, hp, hd, hz, k⟩ := h
    obtain ⟨aZ, gZ, tZ⟩ := T.g_ZERO_numbers
    refine ⟨_, (pss_cons (ps_for PassesOwn.never rfl (pi_list (pv 0)) (pg_name (i := 1) sc_check_some.nd rfl (Or.inl rfl)) (pss_one (ps_expr (pe_c (c_check_number T) hr (by decide) rfl (pa_cons (pv 1) pa_nil)))))
      (pss_one (ps_if (pt_val (pe_callB (cr_all rfl) (by rfl) T.m_all (by decide +kernel) (pa_cons (pe_lc (own := [("number", 1)]) (g := gName 1) (te := tOp (rEqT K) (tCB (rTupOf K) (tCons (tVar 1) tNil)) (tC (.ref aZ))) (tt := tYes) rfl sc_check_some.nd (pi_list (pv 0)) (blkOk_by (N := N_check_some) (sc := fnScope s_check_some) (by decide +kernel)) (fun _ _ _ _ _ => (pg_name (i := 1) sc_check_some.nd rfl (Or.inl rfl))) (fun _ _ _ _ _ => pts_nil) (fun _ _ _ _ _ => (pe_cmpR (op_eqT hr.units) (pe_callTy call_tupO (by rfl) T.m_tuple (by decide +kernel) (pa_cons (pv 1) pa_nil)) (pe_gc (v := .ref aZ) rfl ⟨_, gZ, rfl⟩) (nomark _)))) pa_nil))) pss_never pss_nil))), ?_⟩
    refine ⟨_, rfl, a, rfl, ⟨_, hS⟩, for_list (xs := [v, u]) (fun i σ H' => ∃ x, σ = [some (.ref a), x] ∧ Same H H') ⟨_, rfl, Same.refl _⟩ (fun i σ H' _ h => ?_) (fun i x σ H' ex h => ?_) (fun σ H' h => ?_)⟩
    · obtain ⟨_, _, s1⟩ := h
      exact s1.seq hS
    · obtain ⟨y, rfl, s1⟩ := h
      obtain ⟨q, hq, hn⟩ : ∃ q, IsQ K x q H ∧ IsN q := by
        have := List.mem_of_getElem? ex
        rcases List.mem_cons.mp this with rfl | h
        · exact ⟨p, hv, hp⟩
        · rcases List.mem_cons.mp h with rfl | h
          · exact ⟨d, hu, hd⟩
          · cases h
      exact ⟨x, rfl, x, q, rfl, hq.same s1, hn, fun H2 s2 => ⟨_, rfl, s1.trans s2⟩⟩
    · obtain ⟨y, rfl, s1⟩ := h
      refine ⟨_, rfl, a, rfl, ⟨_, s1.seq hS⟩, fun D nD => lc_rel (xs := [p, d]) (β := Bool) (walk_list (xs := [v, u])) (fun H2 s2 => s2.seq (s1.seq hS)) (fun u q H => IsQ K u q H) (fun u q H H' s h => h.same s) (.cons (hv.same s1) (.cons (hu.same s1) .nil)) (fun y b _ => y = .bl b) (fun y b => Mono.pure) (fun q => decide (ql q = ql zero)) nD (by show 2 < sizeLine; decide) (fun x q H3 Qk _ s3 hx k3 => ?_) (fun H3 ys s3 e3 hP => ?_)⟩
      · obtain ⟨b, rfl, hb⟩ := hx
        refine ⟨_, rfl, b, _, rfl, .inr ⟨hb, ?_⟩⟩
        exact ⟨ql q, ql zero, ⟨b, rfl, hb⟩, ⟨aZ, rfl, tZ _⟩, k3 _ _ (Same.refl _) rfl⟩
      · have hb := bools_of (H := H3) hP
        refine ⟨D, _, rfl, by rw [← hb]; exact SqL.of e3, false, ?_, iteF (k H3 (s1.trans s3))⟩
        have : decide (ql d = ql zero) = false := decide_eq_false fun e => hz (ql_inj e)
        simp [this]
def spLC (K : PySem.W.Frag) : Sp := fun vs H Q _ => ∃ v u p d, vs = [v, u] ∧ IsQ K v p H ∧ IsQ K u d H ∧ IsN p ∧ IsN d ∧ d ≠ zero ∧ Bs 20 p ∧ nrm d < 2 ^ 38 ∧
  ∀ x g r H', Same H H' → IsN g → Gcd p d g → IsCanon g r → IsQ K x r H' → Q x H'
theorem gcd_nz {p d g : Hq} (h : Gcd p d g) (hz : d ≠ zero) : g ≠ zero := fun e => hz (by
  obtain ⟨y, _, hy⟩ := h.2.2
  rw [hy, e]
  apply Hq.ext' <;> simp [mul, raw1, raw2, raw3, raw4, zero])
theorem c_left_common (T : TopOk K mg) : Cal P w K mg base 7 "left_common" (spLC K) [] := by
  refine mkcal T.d_left_common sc_left_common (fun vs H Q E h => ?_) (fun f cdv A outer s H vs Q E hr h => ?_)
  · obtain ⟨v, u, p, d, rfl, _⟩ := h
    rfl
  · obtain ⟨v, u, p, d, rfl, hv, hu, hp, hd, hz, bp, bd, k⟩ := h
    refine ⟨_, (pss_cons (ps_expr (pe_c (c_check_some T) hr (by decide) rfl (pa_cons (pe_lst (pa_cons (pv 0) (pa_cons (pv 1) pa_nil))) pa_nil)))
      (pss_one (ps_ret (pe_c (c_canonical T) hr (by decide) rfl (pa_cons (pe_ix ix_tup (pe_ix ix_tup (pe_c (c_steps_of T) hr (by decide) rfl (pa_cons (pv 0) (pa_cons (pv 1) pa_nil))) pe_int (fun _ _ => rfl)) pe_int (fun _ _ => rfl)) pa_nil))))), ?_⟩
    refine ⟨v, rfl, u, rfl, by show 2 ≤ sizeLine; decide, fun a na => ?_⟩
    have s1 := same_new (o := .lst [v, u]) na
    have hS : SqL K (upd H a (.lst [v, u])) a [v, u] := SqL.of upd_same
    generalize upd H a (.lst [v, u]) = H1 at s1 hS ⊢
    refine ⟨a, v, u, p, d, rfl, hS, hv.same s1, hu.same s1, hp, hd, hz, fun H2 s2 => ?_⟩
    have s12 := s1.trans s2
    refine ⟨v, rfl, u, rfl, v, u, p, d, rfl, hv.same s12, hu.same s12, hp, hd, bp, bd, fun t tn z x y c g H3 s3 ht htn hx hg bg hgcd => ?_⟩
    refine ⟨t, _, 0, _, rfl, rfl, ht, atI_nat (j := 0) rfl, ?_⟩
    refine ⟨tn, _, 0, _, rfl, rfl, htn, atI_nat (j := 0) rfl, ?_⟩
    exact ⟨x, g, rfl, hx, hg, gcd_nz hgcd hz, bg.bd (by decide), fun u r H4 hr4 s4 hu4 => k u g r H4 (s12.trans (s3.trans s4)) hg hgcd hr4 hu4⟩
end
end TPW
namespace TPW
open PySem PySem.Spec PyProof.Rows L2 TP
open RZ (ItzT pi_zipA iZipA)
open C8 (Cal Def cal0 pe_c fnScope fnBody fnArgs fnScope_by pe_gc)
/-- a comprehension over a range, its elements of any kind that needs no heap -/
theorem lc_rngV {lo : Int} {n : Nat} {te : TE} {σ : L2.St} {H1 : Hp} {D : Addr} {Qd : Hp → Prop} {i : Nat} (nD : H1 D = none) (hn : n < sizeLine) (f : Nat → V)
    (hs : ∀ j H (Qk : VK), j < n → Same H1 H → Qk (f j) H → te ((wipe σ [i]).set i (some (.int (lo + (j : Nat))))) H Qk)
    (hd : ∀ H, Same H1 H → H D = some (.lst ((List.range n).map f)) → Qd H) :
    ∃ W : Nat → Nat → Hp → Prop, (∃ m, W 0 m (upd H1 D (.lst []))) ∧ ∀ j m H, W j m H →
      ((Itr lo n).stop j H ∧ Qd H) ∨ ((Itr lo n).go j H ∧ ∃ Nx : Hp → Prop, (∀ H', Nx H' → ∃ m', m' < m ∧ W (j + 1) m' H') ∧ ∀ x H', (Itr lo n).yld j H x H' → gName i x (wipe σ [i]) H' fun σ2 H2 => wipe σ2 [i] = wipe σ [i] ∧ tYes σ2 H2 fun b H3 =>
        if b = true then te σ2 H3 fun y H4 => ∃ acc, H4 D = some (.lst acc) ∧ acc.length < sizeLine ∧ Nx (upd H4 D (.lst (acc ++ [y]))) else Nx H3) := by
  refine lc_map (walk_range) nD hn (fun j y _ => y = f j) (fun _ _ => Mono.pure) (fun _ _ => trivial) (fun j x H H' hj s hy => ?_) (fun H ys s e el hR => hd H s ?_) gm_name
  · obtain ⟨rfl, rfl⟩ := hy
    refine ⟨?_, fun Qk k => hs j _ Qk hj s (k _ _ (Same.refl _) rfl)⟩
    simp only [wipe]
    rw [List.set_set, List.set_set]
  · rw [e]
    congr 1
    apply congrArg
    apply List.ext_getElem?
    intro j
    by_cases hj : j < ys.length
    · have e2 := List.getElem?_eq_getElem hj
      have e3 := hR j _ e2
      rw [e2, e3, List.getElem?_map, List.getElem?_range (by omega)]
      rfl
    · rw [List.getElem?_eq_none (by omega), List.getElem?_eq_none (by simp; omega)]

/-! ### lists of tracked tuples that grow -/
def AccT (D : Addr) (H0 : Hp) (L : List (List Int)) (H : Hp) : Prop := Same H0 H ∧ ∃ ys, H D = some (.lst ys) ∧ Paired (fun u ns => IsTT u ns H) ys L
theorem AccT.same {D : Addr} {H0 H H' : Hp} {L : List (List Int)} (h : AccT D H0 L H) (s : Same H H') : AccT D H0 L H' := by
  obtain ⟨s0, ys, e, p⟩ := h
  exact ⟨s0.trans s, ys, s _ _ e, Paired.mapP p fun _ _ z => z.same s⟩
theorem AccT.ext {D : Addr} {H0 H : Hp} {L M : List (List Int)} {ys zs : List V} (n : H0 D = none) (h : AccT D H0 L H) (e : H D = some (.lst ys)) (r : Paired (fun u ns => IsTT u ns H) zs M) : AccT D H0 (L ++ M) (upd H D (.lst (ys ++ zs))) := by
  obtain ⟨s0, ys', e', p⟩ := h
  rw [e] at e'
  cases e'
  exact ⟨same_upd s0 n, _, upd_same, Paired.app (Paired.mapP p fun _ _ z => IsTT.put e z) (Paired.mapP r fun _ _ z => IsTT.put e z)⟩
theorem flat_len {α β : Type} {f : α → List β} {k : Nat} (h : ∀ x, (f x).length ≤ k) : ∀ l : List α, (l.flatMap f).length ≤ k * l.length
  | [] => by simp
  | x :: l => by
    have := flat_len h l
    have := h x
    rw [List.flatMap_cons, List.length_append, List.length_cons, Nat.mul_add]
    omega
theorem flat_snoc {β : Type} (f : Nat → List β) (j : Nat) : (List.range (j + 1)).flatMap f = (List.range j).flatMap f ++ f j := by
  rw [List.range_succ, List.flatMap_append]
  exact congrArg (fun z => (List.range j).flatMap f ++ z) (List.append_nil _)

section
variable {P : Program} {w : World} {K : PySem.W.Frag} {mg : Str → Option Value} {base : Heap}
def IsP (p : Int) : Prop := p = 3 ∨ p = 5 ∨ p = 7 ∨ p = 11
def spPrime : Sp := fun vs H Q _ => ∃ p, vs = [.int p] ∧ IsP p ∧ ∀ H', Same H H' → Q .non H'
theorem isP_rng {p : Int} (h : IsP p) : 3 ≤ p ∧ p ≤ 199 ∧ p ≤ 11 := by
  unfold IsP at h; omega
def isq (n : Nat) : Nat := Float64.isqrt n
theorem isP_q {p : Int} (h : IsP p) : isq p.toNat ≤ 3 := by
  rcases h with rfl | rfl | rfl | rfl <;> decide +kernel
theorem isP_any {p : Int} (h : IsP p) : ((List.range ((((isq p.toNat : Nat) : Int) + 1 - 2).toNat)).map fun j : Nat => decide (V.int (p % (2 + (j : Int))) = V.int 0)).any id = false := by
  rcases h with rfl | rfl | rfl | rfl <;> decide +kernel
theorem c_check_prime (T : TopOk K mg) : Cal P w K mg base 1 "check_prime" spPrime [] := by
  refine mkcal T.d_check_prime sc_check_prime (fun vs H Q E h => ?_) (fun f cdv A outer s H vs Q E hr h => ?_)
  · obtain ⟨p, rfl, _⟩ := h
    rfl
  · obtain ⟨p, rfl, hp, k⟩ := h
    obtain ⟨tM, gM⟩ := T.g_MOST_PRIME
    obtain ⟨p3, p199, p11⟩ := isP_rng hp
    refine ⟨_, (pss_one (ps_if (PW.pt (pw_or (pt_not (pt_chain op_le op_le pe_int (pv 0) (pe_gc (v := .int 199) rfl ⟨_, gM, ⟨_, rfl⟩⟩))) (pw_or1 (pt_val (pe_callB (cr_any rfl) (by rfl) T.m_any (by decide +kernel) (pa_cons (pe_lc (own := [("divisor", 1)]) (g := gName 1) (tt := tYes) rfl sc_check_prime.nd (pi_range2 (by rfl) T.m_range (pa_cons pe_int (pa_cons (pe_op op_add (pe_callBfun cr_isqrt rfl T.g_isqrt (pa_cons (pv 0) pa_nil)) pe_int) pa_nil))) (blkOk_by (N := N_check_prime) (sc := fnScope s_check_prime) (by decide +kernel)) (fun _ _ _ _ _ => (pg_name (i := 1) sc_check_prime.nd rfl (Or.inl rfl))) (fun _ _ _ _ _ => pts_nil) (fun _ _ _ _ _ => (pe_cmpR op_eq (pe_op op_mod (pv 0) (pv 1)) pe_int (nomark _)))) pa_nil)))))) pss_never pss_nil)), ?_⟩
    refine ⟨_, rfl, 3, p, rfl, rfl, true, congrArg V.bl (decide_eq_true p3), iteT ?_⟩
    refine ⟨p, 199, rfl, rfl, true, congrArg V.bl (decide_eq_true p199), iteF ?_⟩
    have hq := isP_q hp
    refine ⟨_, rfl, p, rfl, by omega, by omega, ?_⟩
    refine ⟨_, _, rfl, rfl, ?_⟩
    change (isq p.toNat ≤ 3) at hq
    refine ⟨2, _, rfl, ⟨by decide, by decide, by show -(2 ^ 62) ≤ ((isq p.toNat : Nat) : Int) + 1; omega, by show ((isq p.toNat : Nat) : Int) + 1 < 2 ^ 62; omega⟩, fun D nD => lc_rngV nD ?_ (fun j => V.bl (decide (V.int (p % (2 + (j : Int))) = V.int 0))) (fun j H2 Qk hj s2 k2 => ?_) (fun H2 s2 e2 => ?_)⟩
    · refine Nat.lt_of_le_of_lt (m := 3) ?_ (by decide)
      show (((isq p.toNat : Nat) : Int) + 1 - 2).toNat ≤ 3
      omega
    · exact ⟨_, rfl, _, rfl, p, 2 + (j : Int), rfl, rfl, by show (0 : Int) < 2 + (j : Int); omega, rfl, k2⟩
    · refine ⟨D, (List.range ((((isq p.toNat : Nat) : Int) + 1 - 2).toNat)).map fun j : Nat => decide (V.int (p % (2 + (j : Int))) = V.int 0), rfl, ?_, ?_⟩
      · refine SqL.of (e2.trans ?_)
        rw [List.map_map]
        rfl
      · rw [isP_any hp]
        exact ⟨false, rfl, iteF (k H2 s2)⟩

/-! ### pairs_of -/
theorem cmul_small {x y : Int} (h1 : -(2 ^ 64) < x) (h2 : x < 2 ^ 64) : CMul x y := .inl ⟨h1, h2⟩
theorem decV {x y : Int} : decide (V.int x = V.int y) = decide (x = y) := by simp
def pairStep (n : Int) (par : Int) (j : Nat) : List (List Int) :=
  let c : Int := -((isq n.toNat : Nat) : Int) + (j : Int)
  let d : Int := ((isq (n - c * c).toNat : Nat) : Int)
  if d * d = n - c * c ∧ c % 2 = par ∧ d % 2 = par then (if 0 < d then [[c, d], [c, -d]] else [[c, 0]]) else []
def cntM (m : Nat) : Nat := (((m : Nat) : Int) + 1 - -((m : Nat) : Int)).toNat
def pairsM (n : Int) (par : Int) : List (List Int) := (List.range (cntM (isq n.toNat))).flatMap (pairStep n par)
theorem pairStep_len (n par : Int) (j : Nat) : (pairStep n par j).length ≤ 2 := by
  simp only [pairStep]
  split
  · split <;> simp
  · simp
theorem isq_ok : ∀ n : Nat, n < 45 → isq n * isq n ≤ n ∧ isq n ≤ 6 := by decide +kernel
def spPairs : Sp := fun vs H Q _ => ∃ n par : Int, vs = [.int n, .int par] ∧ 0 ≤ n ∧ n ≤ 44 ∧ ∀ a ys H', Same H H' → H' a = some (.lst ys) → Paired (fun u ns => IsTT u ns H') ys (pairsM n par) → Q (.ref a) H'
theorem c_pairs_of (T : TopOk K mg) : Cal P w K mg base 1 "pairs_of" spPairs [] := by
  refine mkcal T.d_pairs_of sc_pairs_of (fun vs H Q E h => ?_) (fun f cdv A outer s H vs Q E hr h => ?_)
  · obtain ⟨n, par, rfl, _⟩ := h
    rfl
  · obtain ⟨n, par, rfl, h0, h1, k⟩ := h
    obtain ⟨m1, m2⟩ := isq_ok n.toNat (by omega)
    refine ⟨_, (pss_cons (ps_set (i := 2) sc_pairs_of.nd rfl (Or.inl rfl) (pe_lst pa_nil))
      (pss_cons (ps_set (i := 3) sc_pairs_of.nd rfl (Or.inl rfl) (pe_callBfun cr_isqrt rfl T.g_isqrt (pa_cons (pv 0) pa_nil)))
      (pss_cons (ps_for PassesOwn.never rfl (pi_range2 (by rfl) T.m_range (pa_cons (pe_un un_neg (pv 3)) (pa_cons (pe_op op_add (pv 3) pe_int) pa_nil))) (pg_name (i := 4) sc_pairs_of.nd rfl (Or.inl rfl)) (pss_cons (ps_set (i := 5) sc_pairs_of.nd rfl (Or.inl rfl) (pe_op op_sub (pv 0) (pe_op op_mul (pv 4) (pv 4))))
      (pss_cons (ps_set (i := 6) sc_pairs_of.nd rfl (Or.inl rfl) (pe_callBfun cr_isqrt rfl T.g_isqrt (pa_cons (pv 5) pa_nil)))
      (pss_one (ps_if (PW.pt (pw_and (pt_cmpR op_eq (pe_op op_mul (pv 6) (pv 6)) (pv 5) (nomark _)) (pw_and (pt_cmpR op_eq (pe_op op_mod (pv 4) pe_int) (pv 1) (nomark _)) (pw_and1 (pt_cmpR op_eq (pe_op op_mod (pv 6) pe_int) (pv 1) (nomark _)))))) (pss_one (ps_expr (pe_bm PySem.F.plainAttrs_list PySem.F.slot_list_extend PySem.F.type_list_extend mt_extend (pv 2) (pa_cons (pe_ifExp (pt_cmpR op_gt (pv 6) pe_int (nomark _)) (pe_lst (pa_cons (pe_tup (pa_cons (pv 4) (pa_cons (pv 6) pa_nil))) (pa_cons (pe_tup (pa_cons (pv 4) (pa_cons (pe_un un_neg (pv 6)) pa_nil))) pa_nil))) (pe_lst (pa_cons (pe_tup (pa_cons (pv 4) (pa_cons pe_int pa_nil))) pa_nil))) pa_nil)))) pss_nil)))))
      (pss_one (ps_ret (pv 2)))))), ?_⟩
    rw [show L2.start N_pairs_of [.int n, .int par] = [some (.int n), some (.int par), none, none, none, none, none] from rfl]
    refine ⟨by show 0 ≤ sizeLine; decide, fun D nD => ?_⟩
    refine ⟨_, rfl, n, rfl, h0, by omega, ?_⟩
    simp only [List.set_cons_succ, List.set_cons_zero]
    generalize hm : isq n.toNat = m at m1 m2
    rw [show Float64.isqrt n.toNat = m from hm]
    refine ⟨_, rfl, _, rfl, _, rfl, _, _, rfl, rfl, _, _, rfl, ⟨?_, ?_, ?_, ?_⟩, for_range (n := cntM m) (fun j σ H' => ∃ x y z, σ = [some (.int n), some (.int par), some (.ref D), some (.int (m : Nat)), x, y, z] ∧ AccT D H ((List.range j).flatMap (pairStep n par)) H') ⟨_, _, _, rfl, same_new nD, [], upd_same, .nil⟩ (fun j σ H2 hj h2 => ?_) (fun σ H2 h2 => ?_)⟩
    · show -(2 ^ 62) ≤ -(m : Int); omega
    · show -(m : Int) < 2 ^ 62; omega
    · show -(2 ^ 62) ≤ (m : Int) + 1; omega
    · show (m : Int) + 1 < 2 ^ 62; omega
    · obtain ⟨x, y, z, rfl, hA⟩ := h2
      have hj' : (j : Int) < (m : Int) + 1 - -(m : Int) := by unfold cntM at hj; omega
      have hc0 : 0 ≤ ((m : Int) - (-(m : Int) + (j : Int))) * ((m : Int) + (-(m : Int) + (j : Int))) := Int.mul_nonneg (by omega) (by omega)
      have eS : pairStep n par j = (if (((isq (n - (-(m : Int) + (j : Int)) * (-(m : Int) + (j : Int))).toNat : Nat) : Int) * ((isq (n - (-(m : Int) + (j : Int)) * (-(m : Int) + (j : Int))).toNat : Nat) : Int) = n - (-(m : Int) + (j : Int)) * (-(m : Int) + (j : Int))) ∧ (-(m : Int) + (j : Int)) % 2 = par ∧ ((isq (n - (-(m : Int) + (j : Int)) * (-(m : Int) + (j : Int))).toNat : Nat) : Int) % 2 = par then (if 0 < ((isq (n - (-(m : Int) + (j : Int)) * (-(m : Int) + (j : Int))).toNat : Nat) : Int) then [[-(m : Int) + (j : Int), ((isq (n - (-(m : Int) + (j : Int)) * (-(m : Int) + (j : Int))).toNat : Nat) : Int)], [-(m : Int) + (j : Int), -((isq (n - (-(m : Int) + (j : Int)) * (-(m : Int) + (j : Int))).toNat : Nat) : Int)]] else [[-(m : Int) + (j : Int), 0]]) else []) := by rw [← hm]; rfl
      rw [flat_snoc, eS]
      have hL := flat_len (pairStep_len n par) (List.range j)
      rw [List.length_range] at hL
      have hc1 : -(m : Int) ≤ -(m : Int) + (j : Int) := by omega
      have hc2 : -(m : Int) + (j : Int) ≤ m := by omega
      generalize -(m : Int) + (j : Int) = c at eS hc0 hc1 hc2 ⊢
      have hcc : c * c ≤ n := by
        have e1 : ((m : Int) - c) * ((m : Int) + c) = (m : Int) * m - c * c := by grind
        have e2 : ((m * m : Nat) : Int) = (m : Int) * m := by push_cast; rfl
        omega
      have hcs := sq_nn c
      have mc : CMul c c := cmul_small (by omega) (by omega)
      refine ⟨_, rfl, _, rfl, _, rfl, c, c, rfl, rfl, mc, n, c * c, rfl, rfl, ?_⟩
      simp only [List.set_cons_succ, List.set_cons_zero]
      refine ⟨_, rfl, n - c * c, rfl, by omega, by omega, ?_⟩
      obtain ⟨d1, d2⟩ := isq_ok (n - c * c).toNat (by omega)
      rw [show Float64.isqrt (n - c * c).toNat = isq (n - c * c).toNat from rfl]
      generalize isq (n - c * c).toNat = d at d1 d2 ⊢
      simp only [List.set_cons_succ, List.set_cons_zero]
      have md : CMul (d : Int) (d : Int) := cmul_small (by omega) (by omega)
      have hF : ∀ B : Prop, ¬ B → AccT D H ((List.range j).flatMap (pairStep n par) ++ []) H2 := fun _ _ => by rw [List.append_nil]; exact hA
      refine ⟨_, rfl, _, rfl, _, _, rfl, rfl, md, _, rfl, rfl, _, rfl, ?_⟩
      rw [decV]
      by_cases A : (d : Int) * d = n - c * c
      · rw [decide_eq_true A]
        refine iteT ⟨_, rfl, _, 2, rfl, rfl, by show (0 : Int) < 2; decide, _, rfl, rfl, _, rfl, ?_⟩
        rw [decV]
        by_cases B : c % 2 = par
        · rw [decide_eq_true B]
          refine iteT ⟨_, rfl, _, 2, rfl, rfl, by show (0 : Int) < 2; decide, _, rfl, rfl, _, rfl, ?_⟩
          rw [decV]
          by_cases C : (d : Int) % 2 = par
          · rw [decide_eq_true C, if_pos ⟨A, B, C⟩]
            obtain ⟨sA, ysA, eA, pA⟩ := id hA
            have hzA : ysA.length ≤ 26 := by
              have e9 := pA.length
              have e10 : cntM m ≤ 13 := by unfold cntM; omega
              omega
            refine iteT ⟨_, rfl, .inl ⟨rfl, _, SqL.of eA⟩, ?_⟩
            refine ⟨_, rfl, d, 0, rfl, rfl, _, rfl, ?_⟩
            simp only [List.set_cons_succ, List.set_cons_zero]
            by_cases E0 : 0 < (d : Int)
            · rw [decide_eq_true E0, if_pos E0]
              refine iteT ⟨_, rfl, _, rfl, by show 2 ≤ sizeLine; decide, fun p1 n1 => ⟨_, rfl, _, rfl, _, rfl, by show 2 ≤ sizeLine; decide, fun p2 n2 => ⟨by show 2 ≤ sizeLine; decide, fun l nl => ?_⟩⟩⟩
              have t1 := (IsTT.new (H := H2) (p := p1) (ns := [c, (d : Int)]))
              have t2 := (IsTT.new (H := upd H2 p1 (.tup [.int c, .int d])) (p := p2) (ns := [c, -(d : Int)]))
              have s1 := same_new (o := .tup [.int c, .int d]) n1
              have s2 := same_new (o := .tup [.int c, .int (-(d : Int))]) n2
              have s3 := same_new (o := .lst [.ref p1, .ref p2]) nl
              have hA3 := ((hA.same s1).same s2).same s3
              refine ⟨D, l, _, _, rfl, rfl, s3 _ _ (s2 _ _ (s1 _ _ eA)), upd_same, ?_, _, _, _, rfl, ?_⟩
              · exact Nat.le_of_lt (small1000 (by show ysA.length + 2 ≤ _; omega))
              · exact AccT.ext nD hA3 (s3 _ _ (s2 _ _ (s1 _ _ eA))) (.cons ((t1.same s2).same s3) (.cons (t2.same s3) .nil))
            · rw [decide_eq_false E0, if_neg E0]
              refine iteF ⟨_, rfl, by show 2 ≤ sizeLine; decide, fun p1 n1 => ⟨by show 1 ≤ sizeLine; decide, fun l nl => ?_⟩⟩
              have t1 := (IsTT.new (H := H2) (p := p1) (ns := [c, 0]))
              have s1 := same_new (o := .tup [.int c, .int 0]) n1
              have s3 := same_new (o := .lst [.ref p1]) nl
              have hA3 := (hA.same s1).same s3
              refine ⟨D, l, _, _, rfl, rfl, s3 _ _ (s1 _ _ eA), upd_same, ?_, _, _, _, rfl, ?_⟩
              · exact Nat.le_of_lt (small1000 (by show ysA.length + 1 ≤ _; omega))
              · exact AccT.ext nD hA3 (s3 _ _ (s1 _ _ eA)) (.cons (t1.same s3) .nil)
          · rw [decide_eq_false C, if_neg (fun q => C q.2.2)]
            exact iteF ⟨_, _, _, rfl, hF _ C⟩
        · rw [decide_eq_false B, if_neg (fun q => B q.2.1)]
          exact iteF ⟨_, _, _, rfl, hF _ B⟩
      · rw [decide_eq_false A, if_neg (fun q => A q.1)]
        exact iteF ⟨_, _, _, rfl, hF _ A⟩
    · obtain ⟨x, y, z, rfl, hA⟩ := h2
      obtain ⟨s1, ys, e1, hP⟩ := hA
      refine ⟨_, rfl, k D ys H2 s1 e1 ?_⟩
      unfold pairsM
      rw [hm]
      exact hP

/-! ### numbers_of -/
def numStep2 (n : Int) (i j : Nat) : List (List Int) :=
  let a : Int := 1 + (i : Int)
  let b : Int := -((isq n.toNat : Nat) : Int) + (j : Int)
  if (a + b) % 2 = 0 ∧ 0 ≤ n - a * a - b * b then (pairsM (n - a * a - b * b) (a % 2)).map fun cd => a :: b :: cd else []
def numStep (n : Int) (i : Nat) : List (List Int) := (List.range (cntM (isq n.toNat))).flatMap (numStep2 n i)
def cntN (m : Nat) : Nat := (((m : Nat) : Int) + 1 - 1).toNat
def numbersM (n : Int) : List (List Int) := (List.range (cntN (isq n.toNat))).flatMap (numStep n)
theorem pairsM_two (n par : Int) : ∀ ns ∈ pairsM n par, ∃ c d, ns = [c, d] := by
  intro ns h
  unfold pairsM at h
  obtain ⟨j, _, h⟩ := List.mem_flatMap.mp h
  simp only [pairStep] at h
  split at h
  · split at h
    · rcases List.mem_cons.mp h with rfl | h
      · exact ⟨_, _, rfl⟩
      · exact ⟨_, _, List.mem_singleton.mp h⟩
    · exact ⟨_, _, List.mem_singleton.mp h⟩
  · cases h
theorem pairsM_len {n par : Int} (h0 : 0 ≤ n) (h : n ≤ 44) : (pairsM n par).length ≤ 26 := by
  obtain ⟨_, m2⟩ := isq_ok n.toNat (by omega)
  have := flat_len (pairStep_len n par) (List.range (cntM (isq n.toNat)))
  rw [List.length_range] at this
  have e10 : cntM (isq n.toNat) ≤ 13 := by unfold cntM; omega
  unfold pairsM
  omega
theorem numStep2_len {n : Int} (h : n ≤ 44) (i j : Nat) : (numStep2 n i j).length ≤ 26 := by
  simp only [numStep2]
  split
  · rename_i h2
    rw [List.length_map]
    have := sq_nn (1 + (i : Int))
    have := sq_nn (-((isq n.toNat : Nat) : Int) + (j : Int))
    exact pairsM_len h2.2 (by omega)
  · simp
theorem numStep_len {n : Int} (h0 : 0 ≤ n) (h : n ≤ 44) (i : Nat) : (numStep n i).length ≤ 338 := by
  obtain ⟨_, m2⟩ := isq_ok n.toNat (by omega)
  have := flat_len (numStep2_len h i) (List.range (cntM (isq n.toNat)))
  rw [List.length_range] at this
  have e10 : cntM (isq n.toNat) ≤ 13 := by unfold cntM; omega
  unfold numStep
  omega
/-- [(a, b, c, d) for c, d in pairs], a and b at hand -/
theorem lc_pairs {a : Addr} {ys : List V} {pss : List (List Int)} {te : TE} {σ : L2.St} {H1 : Hp} {D : Addr} {Qd : Hp → Prop} {i j : Nat} {fn : List Int → List Int} (eL : H1 a = some (.lst ys)) (hP : Paired (fun u ns => IsTT u ns H1) ys pss) (h2 : ∀ ns ∈ pss, ∃ c d, ns = [c, d]) (hij : i ≠ j) (nD : H1 D = none) (hn : ys.length < sizeLine)
    (hs : ∀ c d H (Qk : VK), Same H1 H → (∀ y H4, Same H H4 → IsTT y (fn [c, d]) H4 → Qk y H4) → te (((wipe σ [i, j]).set i (some (.int c))).set j (some (.int d))) H Qk)
    (hd : ∀ H zs, Same H1 H → H D = some (.lst zs) → Paired (fun u ns => IsTT u ns H) zs (pss.map fn) → Qd H) :
    ∃ W : Nat → Nat → Hp → Prop, (∃ m, W 0 m (upd H1 D (.lst []))) ∧ ∀ k m H, W k m H →
      ((Itl K a).stop k H ∧ Qd H) ∨ ((Itl K a).go k H ∧ ∃ Nx : Hp → Prop, (∀ H', Nx H' → ∃ m', m' < m ∧ W (k + 1) m' H') ∧ ∀ x H', (Itl K a).yld k H x H' → gTup K 2 (gCons (gName i) (gCons (gName j) gNil)) x (wipe σ [i, j]) H' fun σ2 H2 => wipe σ2 [i, j] = wipe σ [i, j] ∧ tYes σ2 H2 fun b H3 =>
        if b = true then te σ2 H3 fun y H4 => ∃ acc, H4 D = some (.lst acc) ∧ acc.length < sizeLine ∧ Nx (upd H4 D (.lst (acc ++ [y]))) else Nx H3) := by
  refine lc_map (walk_list (xs := ys)) nD hn (fun k y H => ∃ ns, pss[k]? = some ns ∧ IsTT y (fn ns) H) (fun _ _ => Mono.ex fun _ => Mono.pure.and mono_tt) (fun H s => s.seq (SqL.of eL)) (fun k x H H' hk s hy => ?_) (fun H zs s e el hR => hd H zs s e (Paired.of (by rw [el, List.length_map]; exact hP.length) fun q y ns ey en => ?_)) gm_tup2
  · obtain ⟨rfl, e⟩ := hy
    obtain ⟨ns, en, hx⟩ := Paired.get hP e
    obtain ⟨c, d, rfl⟩ := h2 ns (List.mem_of_getElem? en)
    obtain ⟨b, rfl, hb⟩ := hx.same s
    refine ⟨b, [.int c, .int d], rfl, SqT.of hb, rfl, _, _, rfl, _, _, rfl, rfl, ?_, fun Qk kk => ?_⟩
    · simp only [wipe]
      apply List.ext_getElem?
      intro z
      by_cases h1 : z = i
      · subst h1; simp [List.getElem?_set, hij, Ne.symm hij]
      · by_cases h2 : z = j
        · subst h2; simp [List.getElem?_set, hij, Ne.symm hij]
        · simp [List.getElem?_set, h1, h2, Ne.symm h1, Ne.symm h2]
    · exact hs c d H' Qk s fun y H4 s4 r4 => kk y H4 s4 ⟨_, en, r4⟩
  · obtain ⟨ms, em, r⟩ := hR q y ey
    rw [List.getElem?_map, em] at en
    cases en
    exact r
def spNumbers : Sp := fun vs H Q _ => ∃ n : Int, vs = [.int n] ∧ 0 ≤ n ∧ n ≤ 44 ∧ ∀ a ys H', Same H H' → H' a = some (.lst ys) → Paired (fun u ns => IsTT u ns H') ys (numbersM n) → Q (.ref a) H'
theorem c_numbers_of (T : TopOk K mg) : Cal P w K mg base 2 "numbers_of" spNumbers [] := by
  refine mkcal T.d_numbers_of sc_numbers_of (fun vs H Q E h => ?_) (fun f cdv A outer s H vs Q E hr h => ?_)
  · obtain ⟨n, rfl, _⟩ := h
    rfl
  · obtain ⟨n, rfl, h0, h1, k⟩ := h
    obtain ⟨m1, m2⟩ := isq_ok n.toNat (by omega)
    refine ⟨_, (pss_cons (ps_set (i := 1) sc_numbers_of.nd rfl (Or.inl rfl) (pe_lst pa_nil))
      (pss_cons (ps_set (i := 2) sc_numbers_of.nd rfl (Or.inl rfl) (pe_callBfun cr_isqrt rfl T.g_isqrt (pa_cons (pv 0) pa_nil)))
      (pss_cons (ps_for PassesOwn.never rfl (pi_range2 (by rfl) T.m_range (pa_cons pe_int (pa_cons (pe_op op_add (pv 2) pe_int) pa_nil))) (pg_name (i := 3) sc_numbers_of.nd rfl (Or.inr rfl)) (pss_one (ps_for PassesOwn.never rfl (pi_range2 (by rfl) T.m_range (pa_cons (pe_un un_neg (pv 2)) (pa_cons (pe_op op_add (pv 2) pe_int) pa_nil))) (pg_name (i := 4) sc_numbers_of.nd rfl (Or.inr rfl)) (pss_cons (ps_set (i := 5) sc_numbers_of.nd rfl (Or.inl rfl) (pe_op op_sub (pe_op op_sub (pv 0) (pe_op op_mul (pv 3) (pv 3))) (pe_op op_mul (pv 4) (pv 4))))
      (pss_one (ps_if (PW.pt (pw_and (pt_cmpR op_eq (pe_op op_mod (pe_op op_add (pv 3) (pv 4)) pe_int) pe_int (nomark _)) (pw_and1 (pt_cmpR op_ge (pv 5) pe_int (nomark _))))) (pss_one (ps_expr (pe_bm PySem.F.plainAttrs_list PySem.F.slot_list_extend PySem.F.type_list_extend mt_extend (pv 1) (pa_cons (pe_lc (own := [("c", 6), ("d", 7)]) (g := gTup K 2 (gCons (gName 6) (gCons (gName 7) gNil))) (tt := tYes) rfl sc_numbers_of.nd (pi_list (pe_c (c_pairs_of T) hr (by decide) rfl (pa_cons (pv 5) (pa_cons (pe_op op_mod (pv 3) pe_int) pa_nil)))) (blkOk_by (N := N_numbers_of) (sc := fnScope s_numbers_of) (by decide +kernel)) (fun _ _ _ _ _ => (pg_tup rfl (pgs_cons (pg_name (i := 6) sc_numbers_of.nd rfl (Or.inl rfl)) (pgs_cons (pg_name (i := 7) sc_numbers_of.nd rfl (Or.inl rfl)) pgs_nil)))) (fun _ _ _ _ _ => pts_nil) (fun _ _ _ _ _ => (pe_tup (pa_cons (pv 3) (pa_cons (pv 4) (pa_cons (pv 6) (pa_cons (pv 7) pa_nil))))))) pa_nil)))) pss_nil))))))
      (pss_one (ps_ret (pv 1)))))), ?_⟩
    rw [show L2.start N_numbers_of [.int n] = [some (.int n), none, none, none, none, none, none, none] from rfl]
    refine ⟨by show 0 ≤ sizeLine; decide, fun D nD => ?_⟩
    refine ⟨_, rfl, n, rfl, h0, by omega, ?_⟩
    simp only [List.set_cons_succ, List.set_cons_zero]
    generalize hm : isq n.toNat = m at m1 m2
    rw [show Float64.isqrt n.toNat = m from hm]
    refine ⟨_, rfl, _, _, rfl, rfl, _, _, rfl, ⟨by decide, by decide, ?_, ?_⟩, for_range (n := cntN m) (fun i σ H' => ∃ v x y z t, σ = [some (.int n), some (.ref D), some (.int (m : Nat)), v, x, y, z, t] ∧ AccT D H ((List.range i).flatMap (numStep n)) H') ⟨_, _, _, _, _, rfl, same_new nD, [], upd_same, .nil⟩ (fun i σ H2 hi h2 => ?_) (fun σ H2 h2 => ?_)⟩
    · show -(2 ^ 62) ≤ (m : Int) + 1; omega
    · show (m : Int) + 1 < 2 ^ 62; omega
    · obtain ⟨v, x, y, z, t, rfl, hA⟩ := h2
      rw [flat_snoc]
      have hL := flat_len (numStep_len h0 h1) (List.range i)
      rw [List.length_range] at hL
      have hi2 : i ≤ 6 := by unfold cntN at hi; omega
      have hL2 : ((List.range i).flatMap (numStep n)).length ≤ 2028 := by omega
      have eS : numStep n i = (List.range (cntM m)).flatMap (numStep2 n i) := by rw [← hm]; rfl
      rw [eS]
      generalize (List.range i).flatMap (numStep n) = L0 at hA hL2 ⊢
      simp only [List.set_cons_succ, List.set_cons_zero]
      refine ⟨_, rfl, _, rfl, _, rfl, _, _, rfl, rfl, _, _, rfl, ⟨?_, ?_, ?_, ?_⟩, for_range (n := cntM m) (fun j σ H' => ∃ x y z t, σ = [some (.int n), some (.ref D), some (.int (m : Nat)), some (.int (1 + (i : Nat))), x, y, z, t] ∧ AccT D H (L0 ++ (List.range j).flatMap (numStep2 n i)) H') ⟨_, _, _, _, rfl, ?_⟩ (fun j σ H3 hj h3 => ?_) (fun σ H3 h3 => ?_)⟩
      · show -(2 ^ 62) ≤ -(m : Int); omega
      · show -(m : Int) < 2 ^ 62; omega
      · show -(2 ^ 62) ≤ (m : Int) + 1; omega
      · show (m : Int) + 1 < 2 ^ 62; omega
      · simpa using hA
      · obtain ⟨x, y, z, t, rfl, hA3⟩ := h3
        have eT : numStep2 n i j = if ((1 + (i : Int)) + (-(m : Int) + (j : Int))) % 2 = 0 ∧ 0 ≤ n - (1 + (i : Int)) * (1 + (i : Int)) - (-(m : Int) + (j : Int)) * (-(m : Int) + (j : Int)) then (pairsM (n - (1 + (i : Int)) * (1 + (i : Int)) - (-(m : Int) + (j : Int)) * (-(m : Int) + (j : Int))) ((1 + (i : Int)) % 2)).map fun cd => (1 + (i : Int)) :: (-(m : Int) + (j : Int)) :: cd else [] := by rw [← hm]; rfl
        rw [flat_snoc, ← List.append_assoc, eT]
        have hM := flat_len (numStep2_len h1 i) (List.range j)
        rw [List.length_range] at hM
        have hj2 : j ≤ 13 := by unfold cntM at hj; omega
        have hL3 : (L0 ++ (List.range j).flatMap (numStep2 n i)).length ≤ 2028 + 338 := by rw [List.length_append]; omega
        have a1 : 1 ≤ 1 + (i : Int) := by omega
        have a2 : 1 + (i : Int) ≤ 7 := by omega
        have b1 : -6 ≤ -(m : Int) + (j : Int) := by omega
        have b2 : -(m : Int) + (j : Int) ≤ 13 := by omega
        generalize L0 ++ (List.range j).flatMap (numStep2 n i) = L1 at hA3 hL3 ⊢
        generalize 1 + (i : Int) = a at a1 a2 ⊢
        generalize -(m : Int) + (j : Int) = b at b1 b2 ⊢
        have ma : CMul a a := cmul_small (by omega) (by omega)
        have mb : CMul b b := cmul_small (by omega) (by omega)
        have sa := sq_nn a
        have sb := sq_nn b
        simp only [List.set_cons_succ, List.set_cons_zero]
        refine ⟨_, rfl, _, rfl, _, rfl, _, _, rfl, rfl, ma, _, _, rfl, rfl, _, rfl, _, rfl, _, _, rfl, rfl, mb, _, _, rfl, rfl, ?_⟩
        simp only [List.set_cons_succ, List.set_cons_zero]
        refine ⟨_, rfl, _, rfl, _, _, rfl, rfl, _, 2, rfl, rfl, by show (0 : Int) < 2; decide, rfl, _, rfl, ?_⟩
        have hF : ∀ B : Prop, ¬ B → AccT D H (L1 ++ []) H3 := fun _ _ => by rw [List.append_nil]; exact hA3
        rw [decV]
        by_cases A : (a + b) % 2 = 0
        · rw [decide_eq_true A]
          refine iteT ⟨_, rfl, _, 0, rfl, rfl, _, rfl, ?_⟩
          by_cases B : 0 ≤ n - a * a - b * b
          · rw [decide_eq_true B, if_pos ⟨A, B⟩]
            obtain ⟨sA, ysA, eA, pA⟩ := id hA3
            refine iteT ⟨_, rfl, .inl ⟨rfl, _, SqL.of eA⟩, ?_⟩
            refine ⟨_, rfl, _, rfl, a, 2, rfl, rfl, by show (0 : Int) < 2; decide, ?_⟩
            refine ⟨_, _, rfl, B, by omega, fun p ps H4 s4 e4 hP4 => ?_⟩
            have hl4 := hP4.length
            have hl5 := pairsM_len (n := n - a * a - b * b) (par := a % 2) B (by omega)
            refine ⟨p, rfl, ⟨_, SqL.of e4⟩, fun D2 nD2 => lc_pairs (fn := fun cd => a :: b :: cd) e4 hP4 (pairsM_two _ _) (by decide) nD2 (small1000 (by omega)) (fun c d H5 Qk s5 k5 => ?_) (fun H5 zs s5 e5 hP5 => ?_)⟩
            · exact ⟨_, rfl, _, rfl, _, rfl, _, rfl, by show 4 ≤ sizeLine; decide, fun q nq => k5 _ _ (same_new nq) IsTT.new⟩
            · have e6 := s5 _ _ (s4 _ _ eA)
              have hz := hP5.length
              rw [List.length_map] at hz
              have hy := pA.length
              refine ⟨D, D2, _, _, rfl, rfl, e6, e5, ?_, _, _, _, _, rfl, AccT.ext nD ((hA3.same s4).same s5) e6 hP5⟩
              exact Nat.le_of_lt (Nat.lt_of_le_of_lt (m := 5000) (by omega) (by decide))
          · rw [decide_eq_false B, if_neg (fun q => B q.2)]
            exact iteF ⟨_, _, _, _, rfl, hF _ B⟩
        · rw [decide_eq_false A, if_neg (fun q => A q.1)]
          exact iteF ⟨_, _, _, _, rfl, hF _ A⟩
      · obtain ⟨x, y, z, t, rfl, hA3⟩ := h3
        exact ⟨_, _, _, _, _, rfl, hA3⟩
    · obtain ⟨v, x, y, z, t, rfl, hA⟩ := h2
      obtain ⟨s1, ys, e1, hP⟩ := hA
      refine ⟨_, rfl, k D ys H2 s1 e1 ?_⟩
      unfold numbersM
      rw [hm]
      exact hP
end
end TPW
/-! the letters of 3, 5, 7 and 11 -/
namespace TP
open TPW (ql numbersM IsP)
def toQ : List Int → Hq
  | [a, b, c, d] => ⟨a, b, c, d⟩
  | _ => zero
def numsQ (p : Int) : List Hq := (numbersM (4 * p)).map toQ
theorem numsQ_ql {p : Int} (h : IsP p) : (numsQ p).map ql = numbersM (4 * p) := by
  rcases h with rfl | rfl | rfl | rfl <;> decide +kernel
theorem numsQ_ok {p : Int} (h : IsP p) : ∀ q ∈ numsQ p, IsN q ∧ q ≠ zero ∧ q.a.natAbs < 2 ^ 3 ∧ q.b.natAbs < 2 ^ 3 ∧ q.c.natAbs < 2 ^ 3 ∧ q.d.natAbs < 2 ^ 3 := by
  rcases h with rfl | rfl | rfl | rfl <;> decide +kernel
theorem numsQ_len {p : Int} (h : IsP p) : (numsQ p).length ≤ 132 := by
  rcases h with rfl | rfl | rfl | rfl <;> decide +kernel
/-- descending -/
def insD (q : Hq) : List Hq → List Hq
  | [] => [q]
  | x :: r => if ql x < ql q then q :: x :: r else x :: insD q r
def sortD : List Hq → List Hq
  | [] => []
  | x :: r => insD x (sortD r)
theorem insD_perm (q : Hq) : ∀ l, (insD q l).Perm (q :: l)
  | [] => .refl _
  | x :: r => by
    unfold insD
    split
    · exact .refl _
    · exact ((insD_perm q r).cons x).trans (.swap ..)
theorem sortD_perm : ∀ l, (sortD l).Perm l
  | [] => .refl _
  | x :: r => (insD_perm x (sortD r)).trans ((sortD_perm r).cons x)
theorem insD_sorted (q : Hq) : ∀ l, l.Pairwise (fun x y => ¬ ql x < ql y) → (insD q l).Pairwise (fun x y => ¬ ql x < ql y)
  | [], _ => by simp [insD]
  | x :: r, h => by
    unfold insD
    split
    · rename_i c
      refine .cons (fun y hy => ?_) h
      rcases List.mem_cons.mp hy with rfl | hy
      · exact fun e => List.lt_irrefl _ (List.lt_trans c e)
      · exact fun e => (List.pairwise_cons.mp h).1 y hy (List.lt_trans c e)
    · rename_i c
      refine .cons (fun y hy => ?_) (insD_sorted q r (List.pairwise_cons.mp h).2)
      rcases List.mem_cons.mp ((insD_perm q r).mem_iff.mp hy) with rfl | hy
      · exact c
      · exact (List.pairwise_cons.mp h).1 y hy
theorem sortD_sorted : ∀ l, (sortD l).Pairwise (fun x y => ¬ ql x < ql y)
  | [] => .nil
  | x :: r => insD_sorted x _ (sortD_sorted r)
theorem ql_anti {x y : Hq} (h1 : ¬ ql x < ql y) (h2 : ¬ ql y < ql x) : x = y := TPW.ql_inj (List.le_antisymm (List.not_lt.mp h2) (List.not_lt.mp h1))
theorem sort_uniq {l m : List Hq} (hp : m.Perm l) (hs : m.Pairwise fun x y => ¬ ql x < ql y) : m = sortD l :=
  List.Perm.eq_of_pairwise (le := fun x y => ¬ ql x < ql y) (fun a b _ _ h1 h2 => ql_anti h1 h2) hs (sortD_sorted l) (hp.trans (sortD_perm l).symm)
/-- the fold of letters: found, and what is known -/
def stepF (st : List Hq × List Hq) (q : Hq) : List Hq × List Hq := if q ∈ st.2 then st else (st.1 ++ [q], unitsM.map (mul q) ++ st.2)
def Ls (p : Int) : List Hq := ((sortD (numsQ p)).foldl stepF ([], [])).1.reverse

def LsV (p : Int) : List Hq := if p = 3 then [⟨3, 1, -1, -1⟩, ⟨3, 1, -1, 1⟩, ⟨3, 1, 1, -1⟩, ⟨3, 1, 1, 1⟩] else if p = 5 then [⟨4, -2, 0, 0⟩, ⟨4, 0, -2, 0⟩, ⟨4, 0, 0, -2⟩, ⟨4, 0, 0, 2⟩, ⟨4, 0, 2, 0⟩, ⟨4, 2, 0, 0⟩] else if p = 7 then [⟨5, -1, -1, -1⟩, ⟨5, -1, -1, 1⟩, ⟨5, -1, 1, -1⟩, ⟨5, -1, 1, 1⟩, ⟨5, 1, -1, -1⟩, ⟨5, 1, -1, 1⟩, ⟨5, 1, 1, -1⟩, ⟨5, 1, 1, 1⟩] else [⟨6, -2, -2, 0⟩, ⟨6, -2, 0, -2⟩, ⟨6, -2, 0, 2⟩, ⟨6, -2, 2, 0⟩, ⟨6, 0, -2, -2⟩, ⟨6, 0, -2, 2⟩, ⟨6, 0, 2, -2⟩, ⟨6, 0, 2, 2⟩, ⟨6, 2, -2, 0⟩, ⟨6, 2, 0, -2⟩, ⟨6, 2, 0, 2⟩, ⟨6, 2, 2, 0⟩]
theorem Ls_eq {p : Int} (h : IsP p) : Ls p = LsV p := by
  rcases h with rfl | rfl | rfl | rfl <;> decide +kernel
theorem LsV_len {p : Int} (h : IsP p) : (LsV p).length = p.toNat + 1 := by
  rcases h with rfl | rfl | rfl | rfl <;> decide +kernel
theorem LsV_nodup {p : Int} (h : IsP p) : (LsV p).Nodup := by
  rcases h with rfl | rfl | rfl | rfl <;> decide +kernel
theorem LsV_ok {p : Int} (h : IsP p) : ∀ l ∈ LsV p, IsN l ∧ nrm l = p := by
  rcases h with rfl | rfl | rfl | rfl <;> decide +kernel
theorem LsV_small {p : Int} (h : IsP p) : ∀ l ∈ LsV p, l.a.natAbs < 2 ^ 3 ∧ l.b.natAbs < 2 ^ 3 ∧ l.c.natAbs < 2 ^ 3 ∧ l.d.natAbs < 2 ^ 3 := by
  rcases h with rfl | rfl | rfl | rfl <;> decide +kernel
theorem LsV_canon {p : Int} (h : IsP p) : ∀ l ∈ LsV p, ∀ u ∈ unitsM, ¬ ql l < ql (mul l u) := by
  rcases h with rfl | rfl | rfl | rfl <;> decide +kernel
/-- all parts divisible -/
def Dv (n : Int) (q : Hq) : Prop := n ∣ q.a ∧ n ∣ q.b ∧ n ∣ q.c ∧ n ∣ q.d
instance (n : Int) (q : Hq) : Decidable (Dv n q) := by unfold Dv; infer_instance
theorem LsV_two {p : Int} (h : IsP p) : ∀ l ∈ LsV p, ∀ k ∈ LsV p, Dv p (mul (cj l) k) → l = k := by
  rcases h with rfl | rfl | rfl | rfl <;> decide +kernel
theorem LsV_prim {p : Int} (h : IsP p) : ∀ l ∈ LsV p, ¬ Dv p l := by
  rcases h with rfl | rfl | rfl | rfl <;> decide +kernel
theorem unit_mul : ∀ u ∈ unitsM, ∀ v ∈ unitsM, mul u v ∈ unitsM := by decide +kernel
theorem unit_nrm : ∀ u ∈ unitsM, nrm u = 1 := by decide +kernel
theorem unit_cj : ∀ u ∈ unitsM, cj u ∈ unitsM := by decide +kernel
def boxI : List Int := [-6, -5, -4, -3, -2, -1, 0, 1, 2, 3, 4, 5, 6]
def boxOk (p : Int) : Bool := boxI.all fun a => boxI.all fun b => !(decide (b % 2 = a % 2)) || boxI.all fun c => !(decide (c % 2 = a % 2)) || decide (4 * p < a * a + b * b + c * c) || boxI.all fun d => !(decide (n4 ⟨a, b, c, d⟩ = 4 * p)) || !(decide (d % 2 = a % 2)) || !(unitsM.all fun u => !decide (ql ⟨a, b, c, d⟩ < ql (mul ⟨a, b, c, d⟩ u))) || decide ((⟨a, b, c, d⟩ : Hq) ∈ LsV p)
theorem box_ok {p : Int} (h : IsP p) : boxOk p = true := by
  rcases h with rfl | rfl | rfl | rfl <;> decide +kernel
def boxU : Bool := ([-2, -1, 0, 1, 2] : List Int).all fun a => ([-2, -1, 0, 1, 2] : List Int).all fun b => ([-2, -1, 0, 1, 2] : List Int).all fun c => ([-2, -1, 0, 1, 2] : List Int).all fun d => !(decide (n4 ⟨a, b, c, d⟩ = 4)) || !(decide (IsN ⟨a, b, c, d⟩)) || decide ((⟨a, b, c, d⟩ : Hq) ∈ unitsM)
theorem boxU_ok : boxU = true := by decide +kernel
theorem sq_box {x : Int} (h : x * x ≤ 44) : x ∈ boxI := by
  have h1 : -6 ≤ x := by
    rcases Int.lt_or_le x (-6) with c | c
    · have := Int.mul_nonneg (a := -7 - x) (b := -7 - x) (by omega) (by omega)
      have e : (-7 - x) * (-7 - x) = x * x + 14 * x + 49 := by grind
      omega
    · exact c
  have h2 : x ≤ 6 := by
    rcases Int.lt_or_le 6 x with c | c
    · have := Int.mul_nonneg (a := x - 7) (b := x - 7) (by omega) (by omega)
      have e : (x - 7) * (x - 7) = x * x - 14 * x + 49 := by grind
      omega
    · exact c
  unfold boxI
  simp only [List.mem_cons, List.not_mem_nil, or_false]
  omega
theorem sq_box2 {x : Int} (h : x * x ≤ 4) : x ∈ ([-2, -1, 0, 1, 2] : List Int) := by
  have h1 : -2 ≤ x := by
    rcases Int.lt_or_le x (-2) with c | c
    · have := Int.mul_nonneg (a := -3 - x) (b := -3 - x) (by omega) (by omega)
      have e : (-3 - x) * (-3 - x) = x * x + 6 * x + 9 := by grind
      omega
    · exact c
  have h2 : x ≤ 2 := by
    rcases Int.lt_or_le 2 x with c | c
    · have := Int.mul_nonneg (a := x - 3) (b := x - 3) (by omega) (by omega)
      have e : (x - 3) * (x - 3) = x * x - 6 * x + 9 := by grind
      omega
    · exact c
  simp only [List.mem_cons, List.not_mem_nil, or_false]
  omega
theorem unit_of {q : Hq} (h : IsN q) (h1 : nrm q = 1) : q ∈ unitsM := by
  have e := nrm_core h
  rw [h1] at e
  obtain ⟨a, b, c, d⟩ := q
  have ha := sq_nn a
  have hb := sq_nn b
  have hc := sq_nn c
  have hd := sq_nn d
  have e2 : a * a + b * b + c * c + d * d = 4 := by unfold n4 at e; simp only at e; omega
  have z := boxU_ok
  unfold boxU at z
  have z1 := List.all_eq_true.mp z a (sq_box2 (by omega))
  have z2 := List.all_eq_true.mp z1 b (sq_box2 (by omega))
  have z3 := List.all_eq_true.mp z2 c (sq_box2 (by omega))
  have z4 := List.all_eq_true.mp z3 d (sq_box2 (by omega))
  rw [decide_eq_true (show n4 ⟨a, b, c, d⟩ = 4 from e2), decide_eq_true h] at z4
  simpa using z4
theorem letter_of {p : Int} (hp : IsP p) {r : Hq} (h : IsN r) (h1 : nrm r = p) (hm : ∀ u ∈ unitsM, ¬ ql r < ql (mul r u)) : r ∈ LsV p := by
  have e := nrm_core h
  rw [h1] at e
  have hp2 := TPW.isP_rng hp
  obtain ⟨a, b, c, d⟩ := r
  have ha := sq_nn a
  have hb := sq_nn b
  have hc := sq_nn c
  have hd := sq_nn d
  have e2 : a * a + b * b + c * c + d * d = 4 * p := by unfold n4 at e; simp only at e; omega
  have z := box_ok hp
  unfold boxOk at z
  obtain ⟨p1, p2, p3⟩ := id h
  have z1 := List.all_eq_true.mp z a (sq_box (by omega))
  have z2 := List.all_eq_true.mp z1 b (sq_box (by omega))
  rw [decide_eq_true (show b % 2 = a % 2 from p1), Bool.not_true, Bool.false_or] at z2
  have z3 := List.all_eq_true.mp z2 c (sq_box (by omega))
  rw [decide_eq_true (show c % 2 = a % 2 from p2), decide_eq_false (show ¬ 4 * p < a * a + b * b + c * c by omega), Bool.not_true, Bool.false_or, Bool.false_or] at z3
  have z4 := List.all_eq_true.mp z3 d (sq_box (by omega))
  have z5 : (unitsM.all fun u => !decide (ql ⟨a, b, c, d⟩ < ql (mul ⟨a, b, c, d⟩ u))) = true := by
    refine List.all_eq_true.mpr fun u hu => ?_
    rw [decide_eq_false (hm u hu)]
    rfl
  rw [decide_eq_true (show n4 ⟨a, b, c, d⟩ = 4 * p from e2), decide_eq_true (show d % 2 = a % 2 from p3), z5] at z4
  simpa using z4
end TP
namespace TPW
open PySem PySem.Spec PyProof.Rows L2 TP
open RZ (ItzT pi_zipA iZipA)
open C8 (Cal Def cal0 pe_c fnScope fnBody fnArgs fnScope_by pe_gc)
def keyQ (q : Hq) : List Key := [.inl q.a, .inl q.b, .inl q.c, .inl q.d]
theorem keyQ_inj {p q : Hq} (h : keyQ p = keyQ q) : p = q := by
  unfold keyQ at h
  simp only [List.cons.injEq, Sum.inl.injEq] at h
  exact Hq.ext' h.1 h.2.1 h.2.2.1 h.2.2.2.1
theorem SqL.less1 {K : PySem.W.Frag} {H : Hp} {a D : Addr} {xs : List V} {o : HO} (hD : H D = some o) (e : H a = some (.lst xs)) (n : a ≠ D) : SqL K (TPW.less1 H D) a xs := by
  refine SqL.of ?_
  unfold TPW.less1
  rw [if_neg n]
  exact e
theorem less1_of {H : Hp} {a D : Addr} {o : HO} (n : a ≠ D) (e : H a = some o) : less1 H D a = some o := by
  unfold less1
  rw [if_neg n]
  exact e
theorem SqL.lessD {K : PySem.W.Frag} {H : Hp} {a D : Addr} {xs : List V} {zs : List (List Key × V)} (hD : H D = some (.dT zs)) (h : SqL K H a xs) : SqL K (TPW.less1 H D) a xs := by
  rcases h with (h | ⟨o, h⟩) | h
  · refine .inl (.inl (less1_of (fun e => ?_) h))
    rw [e, hD] at h; cases h
  · refine .inl (.inr ⟨o, less1_of (fun e => ?_) h⟩)
    rw [e, hD] at h; cases h
  · exact .inr h
theorem putK_le {κ : Type} [DecidableEq κ] (kvs : List (κ × V)) (k : κ) (v : V) : (putK kvs k v).length ≤ kvs.length + 1 := by
  unfold putK
  split <;> simp
theorem putK_some {kvs : List (List Key × V)} {S : List Hq} {r : Hq} {y : V} (h : ∀ q, (valV kvs (keyQ q)).isSome = decide (q ∈ S)) (q : Hq) : (valV (putK kvs (keyQ r) y) (keyQ q)).isSome = decide (q ∈ r :: S) := by
  rw [valV_put]
  by_cases e : q = r
  · subst e; simp
  · rw [if_neg (fun z => e (keyQ_inj z)), h q]
    simp [e]
theorem paired_unmap {α β : Type} {R : V → β → Prop} {f : α → β} : ∀ {vs : List V} {xs : List α}, Paired R vs (xs.map f) → Paired (fun v x => R v (f x)) vs xs
  | [], [], _ => .nil
  | [], _ :: _, h => by cases h
  | _ :: _, [], h => by cases h
  | _ :: _, _ :: _, .cons h t => .cons h (paired_unmap t)
section
variable {P : Program} {w : World} {K : PySem.W.Frag} {mg : Str → Option Value} {base : Heap}
def spLetters (K : PySem.W.Frag) : Sp := fun vs H Q _ => ∃ p, vs = [.int p] ∧ IsP p ∧ ∀ u H', Same H H' → IsLTT K u ((LsV p).map ql) H' → Q u H'
theorem c_letters (T : TopOk K mg) : Cal P w K mg base 5 "letters" (spLetters K) [] := by
  refine mkcal T.d_letters sc_letters (fun vs H Q E h => ?_) (fun f cdv A outer s H vs Q E hr h => ?_)
  · obtain ⟨p, rfl, _⟩ := h
    rfl
  · obtain ⟨p, rfl, hp, k⟩ := h
    obtain ⟨p3, _, p11⟩ := isP_rng hp
    refine ⟨_, (pss_cons (ps_expr (pe_c (c_check_prime T) hr (by decide) rfl (pa_cons (pv 0) pa_nil)))
      (pss_cons (ps_set (i := 1) sc_letters.nd rfl (Or.inl rfl) (pe_lst pa_nil))
      (pss_cons (ps_set (i := 2) sc_letters.nd rfl (Or.inl rfl) pe_dnewT)
      (pss_cons (ps_for PassesOwn.never rfl (pi_list (pe_callBK (cr_sortQR hr.units) (by rfl) T.m_sorted (by decide +kernel) (pa_cons (pe_c (c_numbers_of T) hr (by decide) rfl (pa_cons (pe_op op_mul pe_int (pv 0)) pa_nil)) pa_nil) (pk_cons pe_bl pk_nil))) (pg_name (i := 3) sc_letters.nd rfl (Or.inl rfl)) (pss_one (ps_if (pt_cmp (pc_dnotin (hu_of hr) (pv 3) (pv 2))) (pss_cons (ps_expr (pe_bm PySem.F.plainAttrs_list PySem.F.slot_list_append PySem.F.type_list_append mt_append (pv 1) (pa_cons (pv 3) pa_nil)))
      (pss_one (ps_for PassesOwn.never rfl (pi_list (pe_c (c_associates T) hr (by decide) rfl (pa_cons (pv 3) pa_nil))) (pg_name (i := 4) sc_letters.nd rfl (Or.inl rfl)) (pss_one (ps_dput (hu_of hr) (pv 2) (pv 4) pe_bl rfl))))) pss_nil)))
      (pss_one (ps_ret (pe_revL (pv 1)))))))), ?_⟩
    rw [show L2.start N_letters [.int p] = [some (.int p), none, none, none, none] from rfl]
    refine ⟨_, rfl, p, rfl, hp, fun H1 s1 => ?_⟩
    refine ⟨by show 0 ≤ sizeLine; decide, fun D1 n1 => ?_⟩
    refine fun D2 n2 => ?_
    simp only [List.set_cons_succ, List.set_cons_zero]
    have mp : CMul 4 p := cmul_small (by omega) (by omega)
    refine ⟨_, rfl, 4, p, rfl, rfl, mp, 4 * p, rfl, by omega, by omega, fun a ys H4 s4 e4 hP4 => ?_⟩
    rw [← numsQ_ql hp] at hP4
    obtain ⟨bs, eb1, eb2, hbs⟩ := rel_pairs (paired_unmap hP4)
    have en1 : upd H1 D1 (.lst []) D1 = some (.lst []) := upd_same
    have n21 : D2 ≠ D1 := fun e => by rw [e, en1] at n2; cases n2
    have e41 := s4 _ _ (show upd (upd H1 D1 (.lst [])) D2 (.dT []) D1 = some (.lst []) by rw [upd_ne (fun e => n21 e.symm)]; exact en1)
    have e42 := s4 _ _ (show upd (upd H1 D1 (.lst [])) D2 (.dT []) D2 = some (.dT []) from upd_same)
    have s01 : Same H (upd H1 D1 (.lst [])) := same_put s1 n1
    have s04 : Same H H4 := (same_put s01 n2).trans s4
    have nn1 : H D1 = none := s1.free n1
    have nn2 : H D2 = none := s01.free n2
    refine ⟨a, bs, rfl, rfl, by rw [eb1]; exact SqL.of e4, fun b hb => (hbs b hb).ti, fun cs q hperm hsort nq => ?_⟩
    have sN := same_new (o := .lst (cs.map (·.1))) nq
    have hcs : ∀ b ∈ cs, IsTT b.1 (ql b.2) (upd H4 q (.lst (cs.map (·.1)))) := fun b hb => (hbs b (hperm.mem_iff.mp hb)).same sN
    have eq5 : upd H4 q (.lst (cs.map (·.1))) q = some (.lst (cs.map (·.1))) := upd_same
    have e51 := sN _ _ e41
    have e52 := sN _ _ e42
    have s05 := s04.trans sN
    have nq1 : q ≠ D1 := fun e => by rw [e, e41] at nq; cases nq
    have nq2 : q ≠ D2 := fun e => by rw [e, e42] at nq; cases nq
    have hcq : cs.map (·.2) = sortD (numsQ p) := by
      refine sort_uniq ((hperm.map _).trans ?_) ?_
      · rw [eb2]
      · rw [List.pairwise_map]
        exact hsort
    have hlen : cs.length ≤ 132 := by
      have e1 := congrArg List.length hcq
      rw [List.length_map, (sortD_perm _).length_eq] at e1
      have := numsQ_len hp
      omega
    generalize upd H4 q (.lst (cs.map (·.1))) = H5 at sN hcs eq5 e51 e52 s05
    have n12 : D1 ≠ D2 := fun e => n21 e.symm
    have sB : Same (less1 (less1 H5 D1) D2) H5 := (less1_same).trans less1_same
    have s0B : Same H (less1 (less1 H5 D1) D2) := same_less1 (same_less1 s05 nn1) nn2
    have qB : (less1 (less1 H5 D1) D2) q = some (.lst (cs.map (·.1))) := less1_of nq2 (less1_of nq1 eq5)
    have nB1 : (less1 (less1 H5 D1) D2) D1 = none := by
      unfold less1
      rw [if_neg n12, if_pos rfl]
    have nB2 : (less1 (less1 H5 D1) D2) D2 = none := by
      unfold less1
      rw [if_pos rfl]
    have cB : ∀ b ∈ cs, IsTT b.1 (ql b.2) (less1 (less1 H5 D1) D2) := fun b hb => by
      obtain ⟨t, et, ht⟩ := hcs b hb
      refine ⟨t, et, less1_of (fun e => ?_) (less1_of (fun e => ?_) ht)⟩
      · rw [e, e52] at ht; cases ht
      · rw [e, e51] at ht; cases ht
    generalize less1 (less1 H5 D1) D2 = B at sB s0B qB nB1 nB2 cB
    refine ⟨q, rfl, ⟨_, SqL.of eq5⟩, for_list (xs := cs.map (·.1)) (fun i σ H' => ∃ x y, σ = [some (.int p), some (.ref D1), some (.ref D2), x, y] ∧ Same B H' ∧ ∃ fs kvs, H' D1 = some (.lst (fs.map (·.1))) ∧ (∀ b ∈ fs, b ∈ cs) ∧ fs.map (·.2) = (((cs.map (·.2)).take i).foldl stepF ([], [])).1 ∧
      H' D2 = some (.dT kvs) ∧ (∀ r, (valV kvs (keyQ r)).isSome = decide (r ∈ (((cs.map (·.2)).take i).foldl stepF ([], [])).2)) ∧ kvs.length ≤ 24 * i ∧ fs.length ≤ i) ⟨_, _, rfl, sB, [], [], e51, (fun b hb => by cases hb), rfl, e52, (fun r => by simp [valV]), Nat.zero_le _, Nat.zero_le _⟩ (fun i σ H' hi h' => ?_) (fun i x σ H' ex h' => ?_) (fun σ H' h' => ?_)⟩
    · obtain ⟨_, _, _, s6, _⟩ := h'
      exact SqL.of (s6 _ _ qB)
    · obtain ⟨x0, y0, rfl, s6, fs, kvs, e61, hfs, efs, e62, hk, hkl, hfl⟩ := h'
      rw [List.getElem?_map] at ex
      obtain ⟨b, eb, rfl⟩ := Option.map_eq_some_iff.mp ex
      have hbm := List.mem_of_getElem? eb
      have hi : i < cs.length := (List.getElem?_eq_some_iff.mp eb).1
      have hb2 : b.2 ∈ numsQ p := (sortD_perm _).mem_iff.mp (by rw [← hcq]; exact List.mem_map_of_mem hbm)
      obtain ⟨bN, bZ, bS⟩ := numsQ_ok hp _ hb2
      have hbB : Bd b.2 := Bd.small (n := 3) (by decide) bS
      have eT : ((cs.map (·.2)).take (i + 1)).foldl stepF ([], []) = stepF (((cs.map (·.2)).take i).foldl stepF ([], [])) b.2 := by
        rw [List.take_add_one, List.getElem?_map, eb]
        exact List.foldl_append
      rw [eT]
      generalize ((cs.map (·.2)).take i).foldl stepF ([], []) = st at efs hk
      have hbT := (cB b hbm).same s6
      obtain ⟨t, et, ht⟩ := id hbT
      have ht2 : H' t = some (.tup ((keyQ b.2).map kV)) := ht
      simp only [List.set_cons_succ, List.set_cons_zero]
      have eg := DGet.t (k := keyQ b.2) e62 ht2
      rw [← et] at eg
      refine ⟨_, rfl, _, rfl, D2, _, rfl, eg, _, rfl, ?_⟩
      rw [hk]
      by_cases c : b.2 ∈ st.2
      · rw [decide_eq_true c]
        refine iteF ⟨_, _, rfl, s6, fs, kvs, e61, hfs, ?_, e62, ?_, by omega, by omega⟩
        · rw [efs]; unfold stepF; rw [if_pos c]
        · intro r; rw [hk]; unfold stepF; rw [if_pos c]
      · rw [decide_eq_false c]
        refine iteT ⟨_, rfl, .inl ⟨rfl, _, SqL.of e61⟩, _, rfl, D1, _, _, rfl, rfl, e61, by rw [List.length_map]; exact small1000 (by omega), ?_⟩
        have s7 : Same B (upd H' D1 (.lst (fs.map (·.1) ++ [b.1]))) := same_upd s6 nB1
        have e71 : upd H' D1 (.lst (fs.map (·.1) ++ [b.1])) D1 = some (.lst (fs.map (·.1) ++ [b.1])) := upd_same
        have e72 : upd H' D1 (.lst (fs.map (·.1) ++ [b.1])) D2 = some (.dT kvs) := by rw [upd_ne n21]; exact e62
        generalize upd H' D1 (.lst (fs.map (·.1) ++ [b.1])) = H7 at s7 e71 e72
        refine ⟨_, rfl, b.1, b.2, rfl, ((cB b hbm).same s7).ti, bN, bZ, hbB, fun pa rs H8 hpr _ s8 hl8 => ?_⟩
        obtain ⟨a8, vs8, ea8, hS8, hP8⟩ := hl8
        cases ea8
        obtain ⟨rb, er1, er2, hrb⟩ := rel_pairs (paired_unmap hP8)
        subst er1
        have hrl : rb.length = 24 := by
          have e1 := congrArg List.length er2
          rw [List.length_map, hpr.length_eq, List.length_map] at e1
          exact e1
        have e81 := s8 _ _ e71
        have e82 := s8 _ _ e72
        have s78 := s7.trans s8
        have sC : Same (less1 H8 D2) H8 := less1_same
        have sBC : Same B (less1 H8 D2) := same_less1 s78 nB2
        have nC : less1 H8 D2 D2 = none := less1_none
        have eC1 : less1 H8 D2 D1 = some (.lst (fs.map (·.1) ++ [b.1])) := less1_of n12 e81
        have hC : ∀ r ∈ rb, IsTT r.1 (ql r.2) (less1 H8 D2) := fun r hr => by
          obtain ⟨t, et, ht⟩ := hrb r hr
          exact ⟨t, et, less1_of (fun e => by rw [e, e82] at ht; cases ht) ht⟩
        have hSC : SqL K (less1 H8 D2) pa (rb.map (·.1)) := SqL.lessD (zs := kvs) e82 hS8
        generalize less1 H8 D2 = C at sC sBC nC eC1 hC hSC
        refine ⟨pa, rfl, ⟨_, hS8⟩, for_list (xs := rb.map (·.1)) (fun j σ H' => ∃ y, σ = [some (.int p), some (.ref D1), some (.ref D2), some b.1, y] ∧ Same C H' ∧ ∃ kv2, H' D2 = some (.dT kv2) ∧ (∀ r, (valV kv2 (keyQ r)).isSome = decide (r ∈ (rb.map (·.2)).take j ∨ r ∈ st.2)) ∧ kv2.length ≤ 24 * i + j) ⟨_, rfl, sC, kvs, e82, (fun r => by rw [hk]; simp), hkl⟩ (fun j σ H' hj h' => ?_) (fun j x σ H' ex h' => ?_) (fun σ H' h' => ?_)⟩
        · obtain ⟨_, _, s9, _⟩ := h'
          exact s9.seq hSC
        · obtain ⟨y1, rfl, s9, kv2, e9, hk9, hl9⟩ := h'
          rw [List.getElem?_map] at ex
          obtain ⟨r, er, rfl⟩ := Option.map_eq_some_iff.mp ex
          have hrm := List.mem_of_getElem? er
          have hj : j < rb.length := (List.getElem?_eq_some_iff.mp er).1
          obtain ⟨t, et, ht⟩ := (hC r hrm).same s9
          have ht2 : H' t = some (.tup ((keyQ r.2).map kV)) := ht
          have hpt := DPut.t (k := keyQ r.2) (v := .bl true) e9 ht2 (Nat.lt_of_le_of_lt (m := 5000) (by omega) (by decide))
          rw [← et] at hpt
          refine ⟨_, rfl, _, rfl, D2, _, rfl, hpt, _, rfl, same_upd s9 nC, _, upd_same, fun r2 => ?_, ?_⟩
          · rw [valV_put, List.take_add_one, List.getElem?_map, er]
            by_cases e : r2 = r.2
            · subst e; simp
            · rw [if_neg (fun z => e (keyQ_inj z)), hk9]
              simp [e]
          · have := putK_le kv2 (keyQ r.2) (.bl true)
            omega
        · obtain ⟨y1, rfl, s9, kv2, e9, hk9, hl9⟩ := h'
          rw [List.length_map] at hl9
          refine ⟨_, _, rfl, sBC.trans s9, fs ++ [b], kv2, ?_, ?_, ?_, e9, ?_, by omega, ?_⟩
          · rw [List.map_append]; exact s9 _ _ eC1
          · intro z hz
            rcases List.mem_append.mp hz with h | h
            · exact hfs z h
            · rw [List.mem_singleton.mp h]; exact hbm
          · unfold stepF
            rw [if_neg c, List.map_append, efs]
            rfl
          · intro r
            rw [hk9]
            unfold stepF
            rw [if_neg c]
            rw [List.take_of_length_le (by rw [List.length_map, List.length_map]; exact Nat.le_refl _), er2]
            simp only [List.mem_append, hpr.mem_iff]
          · rw [List.length_append]; simp; omega
    · obtain ⟨x0, y0, rfl, s6, fs, kvs, e61, hfs, efs, e62, hk, hkl, hfl⟩ := h'
      refine ⟨_, rfl, D1, _, rfl, SqL.of e61, fun u nu => ?_⟩
      have sU := same_new (o := .lst (fs.map (·.1)).reverse) nu
      refine k _ _ ((s0B.trans s6).trans sU) ⟨u, (fs.map (·.1)).reverse, rfl, SqL.of upd_same, ?_⟩
      have e7 : LsV p = (fs.map (·.2)).reverse := by
        rw [← Ls_eq hp, efs]
        unfold Ls
        rw [← hcq]
        rw [List.take_of_length_le (by rw [List.length_map, List.length_map]; exact Nat.le_refl _)]
      rw [e7, ← List.map_reverse]
      rw [← List.map_reverse] at sU ⊢
      exact paired_map (pairs_rel (R := fun v r => IsTT v (ql r) _) fun b hb => ((cB b (hfs b (List.mem_reverse.mp hb))).same s6).same sU)
end
end TPW
namespace TPW
open PySem PySem.Spec PyProof.Rows L2 TP
open RZ (ItzT pi_zipA iZipA)
open C8 (Cal Def cal0 pe_c fnScope fnBody fnArgs fnScope_by pe_gc)
section
variable {P : Program} {w : World} {K : PySem.W.Frag} {mg : Str → Option Value} {base : Heap}
/-- a word: numbers of letters -/
def IsW (p : Int) (ns : List Int) : Prop := ∀ n ∈ ns, 1 ≤ n ∧ n ≤ p + 1
def spWord (K : PySem.W.Frag) : Sp := fun vs H Q _ => ∃ p u ns, vs = [.int p, u] ∧ IsP p ∧ IsTI K u ns H ∧ IsW p ns ∧ ∀ H', Same H H' → Q .non H'
theorem c_check_word (T : TopOk K mg) : Cal P w K mg base 2 "check_word" (spWord K) [] := by
  refine mkcal T.d_check_word sc_check_word (fun vs H Q E h => ?_) (fun f cdv A outer s H vs Q E hr h => ?_)
  · obtain ⟨p, u, ns, rfl, _⟩ := h
    rfl
  · obtain ⟨p, u, ns, rfl, hp, ⟨a, rfl, ha⟩, hw, k⟩ := h
    refine ⟨_, (pss_cons (ps_expr (pe_c (c_check_prime T) hr (by decide) rfl (pa_cons (pv 0) pa_nil)))
      (pss_one (ps_for PassesOwn.never rfl (pi_tup (pv 1)) (pg_name (i := 2) sc_check_word.nd rfl (Or.inl rfl)) (pss_one (ps_if (PW.pt (pw_or (pt_val (pe_callB call_isi (by rfl) T.m_isinstance (by decide +kernel) (pa_cons (pv 2) (pa_cons (pe_bltn (v := .ty "bool") (u := .type "bool") (by rfl) T.m_bool (by decide +kernel) rfl) pa_nil)))) (pw_or1 (pt_not (pt_chain op_le op_le pe_int (pv 2) (pe_op op_add (pv 0) pe_int)))))) pss_never pss_nil))))), ?_⟩
    refine ⟨_, rfl, p, rfl, hp, fun H1 s1 => ?_⟩
    have ha1 := SqT.same s1 ha
    refine ⟨_, rfl, a, rfl, ⟨_, ha1⟩, for_tup (xs := ns.map V.int) (fun i σ H' => ∃ x, σ = [some (.int p), some (.ref a), x] ∧ Same H H') ⟨_, rfl, s1⟩ (fun i σ H' hi h' => ?_) (fun i x σ H' ex h' => ?_) (fun σ H' h' => ?_)⟩
    · obtain ⟨_, _, s2⟩ := h'
      exact SqT.same s2 ha
    · obtain ⟨x0, rfl, s2⟩ := h'
      rw [List.getElem?_map] at ex
      obtain ⟨n, en, rfl⟩ := Option.map_eq_some_iff.mp ex
      obtain ⟨w1, w2⟩ := hw n (List.mem_of_getElem? en)
      refine ⟨_, rfl, .int n, .ty "bool", _, _, false, rfl, .ty _, .base (.int n), kit_ty (by decide +kernel), false, rfl, iteF ?_⟩
      refine ⟨_, rfl, 1, n, rfl, rfl, true, congrArg V.bl (decide_eq_true w1), iteT ?_⟩
      exact ⟨_, rfl, p, 1, rfl, rfl, n, p + 1, rfl, rfl, true, congrArg V.bl (decide_eq_true w2), iteF ⟨_, rfl, s2⟩⟩
    · obtain ⟨x0, rfl, s2⟩ := h'
      exact k H' s2

/-! ### product_at -/
def letM (p n : Int) : Hq := (LsV p).getD (n - 1).toNat zero
def prodW (p : Int) (ns : List Int) : Hq := prodQ (ns.map (letM p))
theorem letM_at {p n : Int} (hp : IsP p) (h1 : 1 ≤ n) (h2 : n ≤ p + 1) : (LsV p)[(n - 1).toNat]? = some (letM p n) := by
  have h := LsV_len hp
  have p3 := (isP_rng hp).1
  unfold letM
  rw [List.getD_eq_getElem?_getD, List.getElem?_eq_getElem (by omega)]
  rfl
theorem letM_mem {p n : Int} (hp : IsP p) (h1 : 1 ≤ n) (h2 : n ≤ p + 1) : letM p n ∈ LsV p := List.mem_of_getElem? (letM_at hp h1 h2)
theorem foldl_nrm {p : Int} : ∀ (qs : List Hq) (q : Hq), IsN q → (∀ r ∈ qs, IsN r ∧ nrm r = p) → IsN (qs.foldl mul q) ∧ nrm (qs.foldl mul q) = nrm q * p ^ qs.length
  | [], q, h, _ => ⟨h, by simp⟩
  | r :: qs, q, h, hr => by
    obtain ⟨h1, h2⟩ := hr r (List.mem_cons_self ..)
    obtain ⟨h3, h4⟩ := foldl_nrm qs (mul q r) (mul_isN h h1) fun x hx => hr x (List.mem_cons_of_mem _ hx)
    refine ⟨h3, ?_⟩
    rw [List.foldl_cons, h4, nrm_mul h h1, h2, List.length_cons, Int.pow_succ]
    grind
theorem prodQ_nrm {p : Int} {qs : List Hq} (hr : ∀ r ∈ qs, IsN r ∧ nrm r = p) : IsN (prodQ qs) ∧ nrm (prodQ qs) = p ^ qs.length := by
  obtain ⟨h1, h2⟩ := foldl_nrm qs one one_isN hr
  refine ⟨h1, ?_⟩
  have e : nrm one = 1 := by decide +kernel
  rw [e, Int.one_mul] at h2
  exact h2
theorem pow_lt38 {p : Int} (hp : IsP p) {n : Nat} (hn : n ≤ 10) : p ^ n < 2 ^ 38 := by
  have h : ∀ n : Nat, n < 11 → (3 : Int) ^ n < 2 ^ 38 ∧ (5 : Int) ^ n < 2 ^ 38 ∧ (7 : Int) ^ n < 2 ^ 38 ∧ (11 : Int) ^ n < 2 ^ 38 := by decide +kernel
  obtain ⟨a, b, c, d⟩ := h n (by omega)
  rcases hp with rfl | rfl | rfl | rfl
  · exact a
  · exact b
  · exact c
  · exact d
theorem prodQ_bs {p : Int} (hp : IsP p) {qs : List Hq} (hr : ∀ r ∈ qs, IsN r ∧ nrm r = p) (hl : qs.length ≤ 10) : Bs 20 (prodQ qs) := by
  obtain ⟨h1, h2⟩ := prodQ_nrm hr
  exact bs_of_nrm h1 (by rw [h2]; exact pow_lt38 hp hl)
def spProdAt (K : PySem.W.Frag) : Sp := fun vs H Q _ => ∃ p u ns, vs = [.int p, u] ∧ IsP p ∧ IsTI K u ns H ∧ IsW p ns ∧ ns.length ≤ 10 ∧ ∀ z H', Same H H' → IsQ K z (prodW p ns) H' → Q z H'
theorem c_product_at (T : TopOk K mg) : Cal P w K mg base 6 "product_at" (spProdAt K) [] := by
  refine mkcal T.d_product_at sc_product_at (fun vs H Q E h => ?_) (fun f cdv A outer s H vs Q E hr h => ?_)
  · obtain ⟨p, u, ns, rfl, _⟩ := h
    rfl
  · obtain ⟨p, u, ns, rfl, hp, ⟨a, rfl, ha⟩, hw, hl, k⟩ := h
    refine ⟨_, (pss_cons (ps_expr (pe_c (c_check_word T) hr (by decide) rfl (pa_cons (pv 0) (pa_cons (pv 1) pa_nil))))
      (pss_cons (ps_set (i := 2) sc_product_at.nd rfl (Or.inr rfl) (pe_c (c_letters T) hr (by decide) rfl (pa_cons (pv 0) pa_nil)))
      (pss_one (ps_ret (pe_c (c_product_of T) hr (by decide) rfl (pa_cons (pe_lc (own := [("letter", 3)]) (g := gName 3) (te := tOp (rIxL K) (tVar 2) (tOp (rI0 fun i j => V.int (i - j)) (tVar 3) (tC (V.int 1)))) (tt := tYes) rfl sc_product_at.nd (pi_tup (pv 1)) (blkOk_by (N := N_product_at) (sc := fnScope s_product_at) (by decide +kernel)) (fun _ _ _ _ _ => (pg_name (i := 3) sc_product_at.nd rfl (Or.inl rfl))) (fun _ _ _ _ _ => pts_nil) (fun _ _ _ _ _ => (pe_ix ix_list (pv 2) (pe_op op_sub (pv 3) pe_int) (fun _ _ => rfl)))) pa_nil)))))), ?_⟩
    rw [show L2.start N_product_at [.int p, .ref a] = [some (.int p), some (.ref a), none, none] from rfl]
    refine ⟨_, rfl, _, rfl, p, _, ns, rfl, hp, ⟨a, rfl, ha⟩, hw, fun H1 s1 => ?_⟩
    refine ⟨_, rfl, p, rfl, hp, fun kn H2 s2 hkn => ?_⟩
    simp only [List.set_cons_succ, List.set_cons_zero]
    obtain ⟨b, ks, rfl, hS, hK⟩ := hkn
    have ha2 := SqT.same (s1.trans s2) ha
    have hlet : ∀ q ∈ ns.map (letM p), IsN q ∧ nrm q = p := fun q hq => by
      obtain ⟨n, hn, rfl⟩ := List.mem_map.mp hq
      exact LsV_ok hp _ (letM_mem hp (hw n hn).1 (hw n hn).2)
    refine ⟨_, rfl, a, rfl, ⟨_, ha2⟩, fun D nD => lc_rel (xs := ns) (β := Hq) (walk_tup (xs := ns.map V.int)) (fun H s => SqT.same s ha2) (fun u n H => u = .int n) (fun u n H H' s h => h) (Paired.of (by simp) fun i x n ex en => ?_) (fun y r H => IsTI K y (ql r) H) (fun y r => mono_ti) (letM p) nD ?_ (fun u n H3 Qk hn s3 hr3 k3 => ?_) (fun H3 ys s3 e3 hP3 => ?_)⟩
    · rw [List.getElem?_map, en] at ex
      cases ex
      rfl
    · rw [List.length_map]
      exact small1000 (by omega)
    · subst hr3
      obtain ⟨w1, w2⟩ := hw n hn
      have hat := letM_at hp w1 w2
      have hkl := hK.length
      rw [List.length_map] at hkl
      have hlt := (List.getElem?_eq_some_iff.mp hat).1
      obtain ⟨y, ey⟩ : ∃ y, ks[(n - 1).toNat]? = some y := ⟨_, List.getElem?_eq_getElem (by omega)⟩
      obtain ⟨ms, em, hy⟩ := Paired.get hK ey
      rw [List.getElem?_map, hat] at em
      cases em
      have e1 : n - 1 = (((n - 1).toNat : Nat) : Int) := by omega
      exact ⟨_, rfl, _, rfl, n, 1, rfl, rfl, b, ks, n - 1, y, rfl, rfl, s3.seq hS, (by rw [e1]; exact atI_nat ey), k3 _ _ (Same.refl _) (hy.same s3).ti⟩
    · refine ⟨.ref D, ns.map (letM p), rfl, ⟨D, ys, rfl, SqL.of e3, paired_map hP3⟩, fun q hq => ⟨(hlet q hq).1, (bs_of_nrm (hlet q hq).1 (by rw [(hlet q hq).2]; have := (isP_rng hp).2.2; exact Int.lt_of_le_of_lt this (by decide))).bd (by decide)⟩, fun i hi => (prodQ_bs hp (fun r hr => hlet r (List.mem_of_mem_take hr)) (by rw [List.length_take, List.length_map]; omega)).bd (by decide), fun z H4 s4 hz => k z H4 ((s1.trans s2).trans (s3.trans s4)) hz⟩

/-! ### power_of -/
def spPow : Sp := fun vs H Q _ => ∃ (p : Int) (n : Nat), vs = [.int p, .int (p ^ n)] ∧ IsP p ∧ n ≤ 10 ∧ ∀ H', Same H H' → Q (.int (n : Nat)) H'
theorem c_power_of (T : TopOk K mg) : Cal P w K mg base 1 "power_of" spPow [] := by
  refine mkcal T.d_power_of sc_power_of (fun vs H Q E h => ?_) (fun f cdv A outer s H vs Q E hr h => ?_)
  · obtain ⟨p, n, rfl, _⟩ := h
    rfl
  · obtain ⟨p, n, rfl, hp, hn, k⟩ := h
    refine ⟨_, (pss_cons (ps_set (i := 2) sc_power_of.nd rfl (Or.inl rfl) pe_int)
      (pss_cons (ps_while PassesOwn.never (PW.pt (pw_and (pt_cmpR op_gt (pv 1) pe_int (nomark _)) (pw_and1 (pt_cmpR op_eq (pe_op op_mod (pv 1) (pv 0)) pe_int (nomark _))))) (pss_cons (ps_set (i := 1) sc_power_of.nd rfl (Or.inl rfl) (pe_op op_fdiv (pv 1) (pv 0)))
      (pss_one (ps_aug (i := 2) sc_power_of.nd rfl (Or.inl rfl) pe_int ip_add))))
      (pss_one (ps_ret (pe_ifExp (pt_cmpR op_eq (pv 1) pe_int (nomark _)) (pv 2) pe_non))))), ?_⟩
    rw [show L2.start N_power_of [.int p, .int (p ^ n)] = [some (.int p), some (.int (p ^ n)), none] from rfl]
    have p3 := (isP_rng hp).1
    have hpos : ∀ j : Nat, 0 < p ^ j := fun j => Int.pow_pos (by omega)
    refine ⟨fun m σ H' => ∃ j : Nat, σ = [some (.int p), some (.int (p ^ j)), some (.int ((n : Int) - (j : Int)))] ∧ j ≤ n ∧ m = j ∧ Same H H', ⟨n, n, by rw [show (n : Int) - n = 0 from by omega]; rfl, Nat.le_refl _, rfl, Same.refl _⟩, ?_⟩
    rintro m σ H' ⟨j, rfl, hj, rfl, s1⟩
    refine ⟨_, rfl, _, 1, rfl, rfl, _, rfl, ?_⟩
    cases m with
    | zero =>
      rw [decide_eq_false (show ¬ (1 : Int) < p ^ 0 by rw [Int.pow_zero]; decide)]
      refine iteF (iteF ⟨_, rfl, rfl, _, rfl, ?_⟩)
      rw [decV, decide_eq_true (show p ^ 0 = 1 from Int.pow_zero p)]
      refine iteT ⟨_, rfl, ?_⟩
      have := k H' s1
      rw [show (n : Int) - ((0 : Nat) : Int) = (n : Int) by omega]
      exact this
    | succ j =>
      have e1 : p ^ (j + 1) = p ^ j * p := Int.pow_succ ..
      have h1 : 1 < p ^ (j + 1) := by
        have := hpos j
        have h2 : 1 * p ≤ p ^ j * p := Int.mul_le_mul_of_nonneg_right (by omega) (by omega)
        omega
      have h3 : p ^ (j + 1) % p = 0 := by rw [e1]; exact Int.mul_emod_left ..
      have h4 : p ^ (j + 1) / p = p ^ j := by rw [e1]; exact Int.mul_ediv_cancel _ (by omega)
      rw [decide_eq_true h1]
      refine iteT ⟨_, rfl, _, rfl, _, p, rfl, rfl, by show 0 < p; omega, rfl, _, rfl, ?_⟩
      rw [decV, decide_eq_true h3]
      refine iteT ⟨fun σ' H'' => ∃ m', m' < j + 1 ∧ ∃ j' : Nat, σ' = [some (.int p), some (.int (p ^ j')), some (.int ((n : Int) - (j' : Int)))] ∧ j' ≤ n ∧ m' = j' ∧ Same H H'', fun σ' H'' h => h, ?_⟩
      refine ⟨_, rfl, _, rfl, _, p, rfl, rfl, ⟨by omega, by have := (isP_rng hp).2.1; omega⟩, ?_⟩
      refine ⟨_, rfl, _, 1, rfl, rfl, ?_⟩
      refine ⟨j, Nat.lt_succ_self j, j, ?_, by omega, rfl, s1⟩
      show [some (V.int p), some (V.int (p ^ (j + 1) / p)), some (V.int ((n : Int) - ((j + 1 : Nat) : Int) + 1))] = _
      rw [show (n : Int) - ((j + 1 : Nat) : Int) + 1 = (n : Int) - (j : Int) by omega, h4]
end
end TPW
/-! products of letters: when the prime divides them -/
namespace TP
open TPW (ql IsP prodQ letM IsCanon Gcd contM gcdQ divQ)
theorem isP_fin {p : Int} (h : IsP p) : ∀ x : Nat, x < p.toNat → ∀ y : Nat, y < p.toNat → ((x : Int) * (y : Int)) % p = 0 → x = 0 ∨ y = 0 := by
  rcases h with rfl | rfl | rfl | rfl <;> decide +kernel
theorem isP_dvd {p : Int} (h : IsP p) {a b : Int} (hd : p ∣ a * b) : p ∣ a ∨ p ∣ b := by
  have p3 := (TPW.isP_rng h).1
  have h1 := Int.emod_nonneg a (b := p) (by omega)
  have h2 := Int.emod_lt_of_pos a (b := p) (by omega)
  have h3 := Int.emod_nonneg b (b := p) (by omega)
  have h4 := Int.emod_lt_of_pos b (b := p) (by omega)
  have h5 := isP_fin h (a % p).toNat (by omega) (b % p).toNat (by omega) (by
    rw [Int.toNat_of_nonneg h1, Int.toNat_of_nonneg h3, ← Int.mul_emod]
    exact Int.emod_eq_zero_of_dvd hd)
  rcases h5 with e | e
  · exact .inl (Int.dvd_of_emod_eq_zero (by omega))
  · exact .inr (Int.dvd_of_emod_eq_zero (by omega))
theorem isP_odd {p : Int} (h : IsP p) : p % 2 = 1 := by
  rcases h with rfl | rfl | rfl | rfl <;> decide
theorem isP_not2 {p : Int} (h : IsP p) : ¬ p ∣ 2 := by
  rcases h with rfl | rfl | rfl | rfl <;> decide
theorem dvd_half {p x y : Int} (h : IsP p) (e : 2 * x = y) (hd : p ∣ y) : p ∣ x := by
  rw [← e] at hd
  exact (isP_dvd h hd).resolve_left (isP_not2 h)
section
variable {p : Int} {a b q x y z : Hq}
theorem Dv.mulr (h : IsP p) (hx : IsN x) (hy : IsN y) (hd : Dv p x) : Dv p (mul x y) := by
  obtain ⟨⟨e1, e2, e3, e4⟩, _⟩ := mul_core hx hy
  obtain ⟨d1, d2, d3, d4⟩ := hd
  have f : ∀ u v : Int, p ∣ u → p ∣ u * v := fun u v h => Int.dvd_mul_of_dvd_left h
  refine ⟨dvd_half h e1 ?_, dvd_half h e2 ?_, dvd_half h e3 ?_, dvd_half h e4 ?_⟩
  · exact Int.dvd_sub (Int.dvd_sub (Int.dvd_sub (f _ _ d1) (f _ _ d2)) (f _ _ d3)) (f _ _ d4)
  · exact Int.dvd_sub (Int.dvd_add (Int.dvd_add (f _ _ d1) (f _ _ d2)) (f _ _ d3)) (f _ _ d4)
  · exact Int.dvd_add (Int.dvd_add (Int.dvd_sub (f _ _ d1) (f _ _ d2)) (f _ _ d3)) (f _ _ d4)
  · exact Int.dvd_add (Int.dvd_sub (Int.dvd_add (f _ _ d1) (f _ _ d2)) (f _ _ d3)) (f _ _ d4)
theorem Dv.cj (hd : Dv p x) : Dv p (TP.cj x) := ⟨hd.1, Int.dvd_neg.mpr hd.2.1, Int.dvd_neg.mpr hd.2.2.1, Int.dvd_neg.mpr hd.2.2.2⟩
theorem Dv.of_cj (hd : Dv p (TP.cj x)) : Dv p x := by
  have := hd.cj
  rwa [cj_cj] at this
theorem Dv.mull (h : IsP p) (hx : IsN x) (hy : IsN y) (hd : Dv p y) : Dv p (mul x y) := by
  have e : mul x y = TP.cj (mul (TP.cj y) (TP.cj x)) := by rw [← cj_mul hx hy, cj_cj]
  rw [e]
  exact (Dv.mulr h (cj_isN hy) (cj_isN hx) hd.cj).cj
theorem Dv.scl (n : Int) (h : p ∣ n) : Dv p (TP.scl n x) := ⟨Int.dvd_mul_of_dvd_left h, Int.dvd_mul_of_dvd_left h, Int.dvd_mul_of_dvd_left h, Int.dvd_mul_of_dvd_left h⟩
theorem Dv.sub (h1 : Dv p x) (h2 : Dv p y) : Dv p (TP.sub x y) := ⟨Int.dvd_sub h1.1 h2.1, Int.dvd_sub h1.2.1 h2.2.1, Int.dvd_sub h1.2.2.1 h2.2.2.1, Int.dvd_sub h1.2.2.2 h2.2.2.2⟩
theorem Dv.of_sub (h : Dv p (TP.sub x y)) (h2 : Dv p y) : Dv p x := by
  have f : ∀ u v : Int, p ∣ u - v → p ∣ v → p ∣ u := fun u v h1 h2 => by
    have := Int.dvd_add h1 h2
    rwa [show u - v + v = u by omega] at this
  exact ⟨f _ _ h.1 h2.1, f _ _ h.2.1 h2.2.1, f _ _ h.2.2.1 h2.2.2.1, f _ _ h.2.2.2 h2.2.2.2⟩
/-- a number plus its conjugate -/
theorem tr_sub (z : Hq) : z = TP.sub (TP.scl z.a one) (TP.cj z) := by
  apply Hq.ext' <;> simp [TP.sub, TP.scl, one, TP.cj] <;> omega
theorem qxq (hq : IsN q) (hx : IsN x) : mul q (mul x q) = TP.sub (TP.scl (mul x q).a q) (TP.scl (nrm q) (TP.cj x)) := by
  have hxq := mul_isN hx hq
  have e := tr_sub (mul x q)
  have e2 : mul q (TP.scl (mul x q).a one) = TP.scl (mul x q).a q := by rw [mul_scl hq one_isN, mul_one']
  have e3 : mul q (TP.cj (mul x q)) = TP.scl (nrm q) (TP.cj x) := by
    rw [cj_mul hx hq, ← mul_assoc' hq (cj_isN hq) (cj_isN hx), mul_cj hq, scl_one_mul (cj_isN hx)]
  have e4 := sub_mul hq (scl_isN (mul x q).a one_isN) (cj_isN hxq)
  rw [e2, e3, ← e] at e4
  exact e4
theorem tr_comm (x y : Hq) : (mul x y).a = (mul y x).a := by
  have : raw1 x y = raw1 y x := by unfold raw1; grind
  show raw1 x y / 2 = raw1 y x / 2
  rw [this]
def eI : Hq := ⟨0, 2, 0, 0⟩
def eJ : Hq := ⟨0, 0, 2, 0⟩
def eK : Hq := ⟨0, 0, 0, 2⟩
theorem tr_parts (z : Hq) : (mul z one).a = z.a ∧ (mul z eI).a = -z.b ∧ (mul z eJ).a = -z.c ∧ (mul z eK).a = -z.d := by
  refine ⟨?_, ?_, ?_, ?_⟩ <;> simp only [mul, raw1, one, eI, eJ, eK] <;> omega
theorem key_tr (h : IsP p) (ha : IsN a) (hq : IsN q) (hb : IsN b) (hn : p ∣ nrm q) (hd : Dv p (mul (mul a q) b)) (hy : IsN y) (h1 : ¬ Dv p (mul a q)) : p ∣ (mul (mul q b) y).a := by
  have hby := mul_isN hb hy
  have haq := mul_isN ha hq
  have e1 : mul (mul (mul a q) b) (mul y q) = mul a (mul q (mul (mul b y) q)) := by
    rw [mul_assoc' haq hb (mul_isN hy hq), ← mul_assoc' hb hy hq, mul_assoc' ha hq (mul_isN hby hq)]
  have d1 : Dv p (mul a (mul q (mul (mul b y) q))) := by
    rw [← e1]
    exact Dv.mulr h (mul_isN haq hb) (mul_isN hy hq) hd
  rw [qxq hq hby, sub_mul ha (scl_isN _ hq) (scl_isN _ (cj_isN hby)), mul_scl ha hq] at d1
  have d2 : Dv p (mul a (TP.scl (nrm q) (TP.cj (mul b y)))) := by
    rw [mul_scl ha (cj_isN hby)]
    exact Dv.scl _ hn
  have d3 := Dv.of_sub d1 d2
  have e2 : (mul (mul b y) q).a = (mul (mul q b) y).a := by
    rw [tr_comm, mul_assoc' hq hb hy]
  rw [e2] at d3
  obtain ⟨k1, k2, k3, k4⟩ := d3
  by_cases c : p ∣ (mul (mul q b) y).a
  · exact c
  · exact absurd ⟨(isP_dvd h k1).resolve_left c, (isP_dvd h k2).resolve_left c, (isP_dvd h k3).resolve_left c, (isP_dvd h k4).resolve_left c⟩ h1
theorem key_mul (h : IsP p) (ha : IsN a) (hq : IsN q) (hb : IsN b) (hn : p ∣ nrm q) (h1 : ¬ Dv p (mul a q)) (h2 : ¬ Dv p (mul q b)) : ¬ Dv p (mul (mul a q) b) := by
  intro hd
  have t := fun y hy => key_tr h ha hq hb hn hd (y := y) hy h1
  obtain ⟨t1, t2, t3, t4⟩ := tr_parts (mul q b)
  have k1 := t one one_isN
  have k2 := t eI (by decide)
  have k3 := t eJ (by decide)
  have k4 := t eK (by decide)
  rw [t1] at k1
  rw [t2] at k2
  rw [t3] at k3
  rw [t4] at k4
  exact h2 ⟨k1, Int.dvd_neg.mp k2, Int.dvd_neg.mp k3, Int.dvd_neg.mp k4⟩
end
/-- no two neighbours whose product is divisible -/
def Red (p : Int) : List Hq → Prop
  | [] => True
  | [_] => True
  | a :: b :: r => ¬ Dv p (mul a b) ∧ Red p (b :: r)
/-- of norm p, and not divisible -/
def Let (p : Int) (q : Hq) : Prop := IsN q ∧ nrm q = p ∧ ¬ Dv p q
theorem Let.of {p : Int} (h : IsP p) {l : Hq} (hl : l ∈ LsV p) : Let p l := ⟨(LsV_ok h l hl).1, (LsV_ok h l hl).2, LsV_prim h l hl⟩
theorem cj_let {p : Int} {q : Hq} (h : Let p q) : Let p (cj q) := ⟨cj_isN h.1, (nrm_cj q).trans h.2.1, fun d => h.2.2 d.of_cj⟩
theorem red_fold {p : Int} (h : IsP p) : ∀ (r : List Hq) (a q : Hq), IsN a → Let p q → (∀ b ∈ r, Let p b) → ¬ Dv p (mul a q) → Red p (q :: r) → ¬ Dv p (r.foldl mul (mul a q))
  | [], a, q, ha, hq, hr, h1, hR => h1
  | b :: r, a, q, ha, hq, hr, h1, hR => by
    have hb := hr b (List.mem_cons_self ..)
    have h2 := key_mul h ha hq.1 hb.1 (by rw [hq.2.1]; exact Int.dvd_refl p) h1 hR.1
    exact red_fold h r (mul a q) b (mul_isN ha hq.1) hb (fun c hc => hr c (List.mem_cons_of_mem _ hc)) h2 hR.2
theorem one_prim {p : Int} (h : IsP p) : ¬ Dv p one := fun d => isP_not2 h d.1
theorem red_prim {p : Int} (h : IsP p) : ∀ qs : List Hq, (∀ b ∈ qs, Let p b) → Red p qs → ¬ Dv p (prodQ qs)
  | [], _, _ => one_prim h
  | q :: r, hr, hR => by
    have hq := hr q (List.mem_cons_self ..)
    refine red_fold h r one q one_isN hq (fun c hc => hr c (List.mem_cons_of_mem _ hc)) ?_ hR
    rw [one_mul']
    exact hq.2.2
end TP
/-! reduced words -/
namespace TP
open TPW (ql IsP prodQ letM IsCanon Gcd contM gcdQ divQ prodQ_isN)
theorem fold_mul : ∀ (qs : List Hq) (a b : Hq), IsN a → IsN b → (∀ q ∈ qs, IsN q) → qs.foldl mul (mul a b) = mul a (qs.foldl mul b)
  | [], a, b, _, _, _ => rfl
  | q :: r, a, b, ha, hb, h => by
    have hq := h q (List.mem_cons_self ..)
    have hr : ∀ c ∈ r, IsN c := fun c hc => h c (List.mem_cons_of_mem _ hc)
    show r.foldl mul (mul (mul a b) q) = mul a (r.foldl mul (mul b q))
    rw [mul_assoc' ha hb hq, fold_mul r a (mul b q) ha (mul_isN hb hq) hr]
theorem prod_cons {q : Hq} {r : List Hq} (hq : IsN q) (h : ∀ c ∈ r, IsN c) : prodQ (q :: r) = mul q (prodQ r) := by
  have e := fold_mul r q one hq one_isN h
  rw [mul_one'] at e
  show r.foldl mul (mul one q) = _
  rw [one_mul']
  exact e
theorem prod_snoc {q : Hq} {r : List Hq} : prodQ (r ++ [q]) = mul (prodQ r) q := List.foldl_append
theorem prod_app {r s : List Hq} (hr : ∀ c ∈ r, IsN c) (hs : ∀ c ∈ s, IsN c) : prodQ (r ++ s) = mul (prodQ r) (prodQ s) := by
  have e := fold_mul s (prodQ r) one (prodQ_isN hr) one_isN hs
  rw [mul_one'] at e
  exact List.foldl_append.trans e
theorem exists_max : ∀ (l : List Hq) (x : Hq), ∃ m ∈ x :: l, ∀ s ∈ x :: l, ¬ ql m < ql s
  | [], x => ⟨x, List.mem_singleton_self _, fun s hs => by rw [List.mem_singleton.mp hs]; exact List.lt_irrefl _⟩
  | y :: l, x => by
    obtain ⟨m, hm, h⟩ := exists_max l y
    by_cases c : ql m < ql x
    · refine ⟨x, List.mem_cons_self .., fun s hs => ?_⟩
      rcases List.mem_cons.mp hs with rfl | hs
      · exact List.lt_irrefl _
      · exact fun e => h s hs (List.lt_trans c e)
    · refine ⟨m, List.mem_cons_of_mem _ hm, fun s hs => ?_⟩
      rcases List.mem_cons.mp hs with rfl | hs
      · exact c
      · exact h s hs
theorem unit_isN {u : Hq} (h : u ∈ unitsM) : IsN u := TPW.unit_ok u h
theorem unit_inv {u : Hq} (h : u ∈ unitsM) : mul u (cj u) = one := by
  rw [mul_cj (unit_isN h), unit_nrm u h, scl_one]
theorem unit_inv2 {u : Hq} (h : u ∈ unitsM) : mul (cj u) u = one := by
  rw [cj_mul_self (unit_isN h), unit_nrm u h, scl_one]
theorem canon_of {p : Int} (hp : IsP p) {g : Hq} (hg : IsN g) (hn : nrm g = p) {r : Hq} (h : IsCanon g r) : r ∈ LsV p ∧ ∃ v ∈ unitsM, g = mul r v := by
  obtain ⟨hm, hx⟩ := h
  obtain ⟨v, hv, rfl⟩ := List.mem_map.mp hm
  have hvN := unit_isN hv
  refine ⟨letter_of hp (mul_isN hg hvN) (by rw [nrm_mul hg hvN, unit_nrm v hv, hn]; omega) (fun u hu => ?_), cj v, unit_cj v hv, ?_⟩
  · rw [mul_assoc' hg hvN (unit_isN hu)]
    exact hx _ (List.mem_map_of_mem (unit_mul v hv u hu))
  · rw [mul_assoc' hg hvN (cj_isN hvN), unit_inv hv, mul_one']
theorem canon_ex (g : Hq) : ∃ r, IsCanon g r := by
  obtain ⟨m, hm, h⟩ := exists_max ((unitsM.map (mul g)).tail) ((unitsM.map (mul g)).head (by simp [unitsM]))
  rw [List.cons_head_tail] at hm h
  exact ⟨m, hm, h⟩
/-- N is p^s times the reduced letters xs times a unit; n letters went in -/
structure Dec (p : Int) (N : Hq) (n s : Nat) (xs : List Hq) (u : Hq) : Prop where
  eq : N = scl (p ^ s) (mul (prodQ xs) u)
  mem : ∀ x ∈ xs, x ∈ LsV p
  red : Red p xs
  unit : u ∈ unitsM
  len : 2 * s + xs.length = n
theorem red_snoc {p : Int} : ∀ (ys : List Hq) (k r : Hq), Red p (ys ++ [k]) → ¬ Dv p (mul k r) → Red p (ys ++ [k] ++ [r])
  | [], k, r, _, h => ⟨h, trivial⟩
  | [a], k, r, h1, h => ⟨h1.1, h, trivial⟩
  | a :: b :: ys, k, r, h1, h => ⟨h1.1, red_snoc (b :: ys) k r h1.2 h⟩
theorem red_init {p : Int} : ∀ (ys : List Hq) (k : Hq), Red p (ys ++ [k]) → Red p ys
  | [], k, _ => trivial
  | [a], k, _ => trivial
  | a :: b :: ys, k, h1 => ⟨h1.1, red_init (b :: ys) k h1.2⟩
theorem red_tail {p : Int} : ∀ (a : Hq) (ys : List Hq), Red p (a :: ys) → Red p ys
  | a, [], _ => trivial
  | a, b :: ys, h1 => h1.2
theorem dv_scl {p : Int} (hp : IsP p) {q : Hq} (h : IsN q) (hd : Dv p q) : ∃ v, IsN v ∧ q = scl p v := by
  obtain ⟨⟨a, ha⟩, ⟨b, hb⟩, ⟨c, hc⟩, ⟨d, hd⟩⟩ := hd
  have ho := isP_odd hp
  refine ⟨⟨a, b, c, d⟩, ?_, Hq.ext' ha hb hc hd⟩
  have f : ∀ x y : Int, (p * x) % 2 = (p * y) % 2 → x % 2 = y % 2 := fun x y e => by
    rw [Int.mul_emod, Int.mul_emod p y, ho] at e
    omega
  obtain ⟨h1, h2, h3⟩ := h
  rw [ha, hb] at h1
  rw [ha, hc] at h2
  rw [ha, hd] at h3
  exact ⟨f _ _ h1, f _ _ h2, f _ _ h3⟩
theorem nrm_scl {q : Hq} (h : IsN q) (n : Int) : nrm (scl n q) = n * n * nrm q := by
  have e1 := nrm_core h
  have e2 := nrm_core (scl_isN n h)
  have e3 : n4 (scl n q) = n * n * n4 q := by unfold n4 scl; simp only; grind
  rw [e3, ← e1] at e2
  have : n * n * (4 * nrm q) = 4 * (n * n * nrm q) := by grind
  omega
section
variable {p : Int} {N l u : Hq} {n s : Nat} {xs : List Hq}
theorem Dec.xsN (hp : IsP p) (D : Dec p N n s xs u) : ∀ x ∈ xs, IsN x := fun x hx => (LsV_ok hp x (D.mem x hx)).1
theorem Dec.isN (hp : IsP p) (D : Dec p N n s xs u) : IsN N := by
  rw [D.eq]
  exact scl_isN _ (mul_isN (prodQ_isN (D.xsN hp)) (unit_isN D.unit))
theorem Dec.step (hp : IsP p) (D : Dec p N n s xs u) (hl : l ∈ LsV p) : ∃ s' xs' u', Dec p (mul N l) (n + 1) s' xs' u' := by
  obtain ⟨hlN, hln⟩ := LsV_ok hp l hl
  have huN := unit_isN D.unit
  have hxs := D.xsN hp
  have hX := prodQ_isN hxs
  obtain ⟨r, hr⟩ := canon_ex (mul u l)
  obtain ⟨hrm, v, hv, ev⟩ := canon_of hp (mul_isN huN hlN) (by rw [nrm_mul huN hlN, unit_nrm u D.unit, hln]; omega) hr
  obtain ⟨hrN, hrn⟩ := LsV_ok hp r hrm
  have hvN := unit_isN hv
  have e1 : mul N l = scl (p ^ s) (mul (mul (prodQ xs) r) v) := by
    rw [D.eq, scl_mul (mul_isN hX huN) hlN, mul_assoc' hX huN hlN, ev, mul_assoc' hX hrN hvN]
  rcases List.eq_nil_or_concat xs with rfl | ⟨ys, k, rfl⟩
  · refine ⟨s, [r], v, e1, fun x hx => ?_, trivial, hv, ?_⟩
    · rw [List.mem_singleton.mp hx]; exact hrm
    · have := D.len
      simp at this ⊢
      omega
  · rw [List.concat_eq_append] at *
    have hk := D.mem k (by simp)
    obtain ⟨hkN, hkn⟩ := LsV_ok hp k hk
    by_cases c : Dv p (mul k r)
    · obtain ⟨w, hw, ew⟩ := dv_scl hp (mul_isN hkN hrN) c
      have hys : ∀ x ∈ ys, IsN x := fun x hx => hxs x (by simp [hx])
      have hY := prodQ_isN hys
      have en : nrm w = 1 := by
        have e2 := nrm_mul hkN hrN
        rw [ew, nrm_scl hw, hkn, hrn] at e2
        have p3 := (TPW.isP_rng hp).1
        have h0 : p * p ≠ 0 := by
          have := Int.mul_pos (a := p) (b := p) (by omega) (by omega)
          omega
        exact Int.eq_of_mul_eq_mul_left h0 (by rw [e2, Int.mul_one])
      have hwu := unit_of hw en
      refine ⟨s + 1, ys, mul w v, ?_, fun x hx => D.mem x (by simp [hx]), red_init _ _ D.red, unit_mul w hwu v hv, ?_⟩
      · rw [e1, prod_snoc, mul_assoc' hY hkN hrN, ew, mul_scl hY hw, scl_mul (mul_isN hY hw) hvN, scl_scl, mul_assoc' hY hw hvN, Int.pow_succ]
      · have := D.len
        rw [List.length_append] at this
        simp at this
        omega
    · refine ⟨s, ys ++ [k] ++ [r], v, ?_, fun x hx => ?_, red_snoc _ _ _ D.red c, hv, ?_⟩
      · rw [e1, prod_snoc (r := ys ++ [k])]
      · rcases List.mem_append.mp hx with h | h
        · exact D.mem x h
        · rw [List.mem_singleton.mp h]; exact hrm
      · have := D.len
        rw [List.length_append, List.length_singleton]
        omega
theorem one_unit : one ∈ unitsM := by decide +kernel
theorem dec_fold (hp : IsP p) : ∀ (ls : List Hq) (N : Hq) (n : Nat), (∀ l ∈ ls, l ∈ LsV p) → (∃ s xs u, Dec p N n s xs u) → ∃ s xs u, Dec p (ls.foldl mul N) (n + ls.length) s xs u
  | [], N, n, _, h => h
  | l :: ls, N, n, hl, ⟨s, xs, u, D⟩ => by
    have h := dec_fold hp ls (mul N l) (n + 1) (fun x hx => hl x (List.mem_cons_of_mem _ hx)) (D.step hp (hl l (List.mem_cons_self ..)))
    rw [List.length_cons, show n + (ls.length + 1) = n + 1 + ls.length by omega]
    exact h
theorem dec_ex (hp : IsP p) {ls : List Hq} (hl : ∀ l ∈ ls, l ∈ LsV p) : ∃ s xs u, Dec p (prodQ ls) ls.length s xs u := by
  have h := dec_fold hp ls one 0 hl ⟨0, [], one, { eq := by rw [Int.pow_zero, scl_one]; decide +kernel, mem := fun x hx => (by cases hx), red := trivial, unit := one_unit, len := rfl }⟩
  rwa [Nat.zero_add] at h
end
end TP
/-! content, and the first letter -/
namespace TP
open TPW (ql IsP prodQ letM IsCanon Gcd contM gcdQ divQ prodQ_isN)
theorem gcdQ_dvd (q : Hq) : gcdQ q ∣ q.a ∧ gcdQ q ∣ q.b ∧ gcdQ q ∣ q.c ∧ gcdQ q ∣ q.d := by
  unfold gcdQ
  simp only [Int.natAbs_natCast]
  have h1 := Nat.gcd_dvd_left (Nat.gcd q.a.natAbs q.b.natAbs) (Nat.gcd q.c.natAbs q.d.natAbs)
  have h2 := Nat.gcd_dvd_right (Nat.gcd q.a.natAbs q.b.natAbs) (Nat.gcd q.c.natAbs q.d.natAbs)
  refine ⟨?_, ?_, ?_, ?_⟩ <;> rw [Int.ofNat_dvd_left]
  · exact Nat.dvd_trans h1 (Nat.gcd_dvd_left ..)
  · exact Nat.dvd_trans h1 (Nat.gcd_dvd_right ..)
  · exact Nat.dvd_trans h2 (Nat.gcd_dvd_left ..)
  · exact Nat.dvd_trans h2 (Nat.gcd_dvd_right ..)
theorem gcdQ_nn (q : Hq) : 0 ≤ gcdQ q := by
  unfold gcdQ
  exact Int.natCast_nonneg _
theorem gcdQ_scl {n : Int} (hn : 0 ≤ n) (q : Hq) : gcdQ (scl n q) = n * gcdQ q := by
  unfold gcdQ scl
  simp only [Int.natAbs_natCast, Int.natAbs_mul, Nat.gcd_mul_left]
  rw [Int.natCast_mul, Int.natAbs_of_nonneg hn]
theorem divQ_scl {n : Int} (hn : 0 < n) (q : Hq) : divQ (scl n q) n = q := by
  have f : ∀ x : Int, n * x / n = x := fun x => Int.mul_ediv_cancel_left _ (by omega)
  unfold divQ scl
  simp only [f]
theorem sq_four {p g : Int} (hp : IsP p) (hg : 0 ≤ g) (hn : ¬ p ∣ g) : ∀ (m : Nat) (t : Int), g * g * t = 4 * p ^ m → g = 1 ∨ g = 2
  | 0, t, e => by
    rw [Int.pow_zero, Int.mul_one] at e
    have h1 : g * g ∣ 4 := ⟨t, e.symm⟩
    have h2 := Int.le_of_dvd (by decide) h1
    have h3 : g ≤ 2 := by
      rcases Int.lt_or_le 2 g with c | c
      · have : 3 * 3 ≤ g * g := Int.mul_le_mul (by omega) (by omega) (by decide) hg
        omega
      · exact c
    rcases (by omega : g = 0 ∨ g = 1 ∨ g = 2) with rfl | h | h
    · exact absurd (Int.dvd_zero p) hn
    · exact .inl h
    · exact .inr h
  | m + 1, t, e => by
    have p3 := (TPW.isP_rng hp).1
    have h1 : p ∣ g * g * t := ⟨4 * p ^ m, by rw [e, Int.pow_succ]; grind⟩
    have h2 : p ∣ t := by
      rcases isP_dvd hp h1 with h | h
      · exact absurd ((isP_dvd hp h).elim id id) hn
      · exact h
    obtain ⟨t', rfl⟩ := h2
    refine sq_four hp hg hn m t' (Int.eq_of_mul_eq_mul_left (a := p) (by omega) ?_)
    have e2 : p * (g * g * t') = g * g * (p * t') := by grind
    rw [e2, e, Int.pow_succ]
    grind
theorem pow_odd {p : Int} (hp : IsP p) : ∀ m : Nat, p ^ m % 2 = 1
  | 0 => by rw [Int.pow_zero]; rfl
  | m + 1 => by rw [Int.pow_succ, Int.mul_emod, pow_odd hp m, isP_odd hp]; rfl
theorem cont_ok {p : Int} (hp : IsP p) {z : Hq} (hz : IsN z) {m : Nat} (hn : nrm z = p ^ m) (hd : ¬ Dv p z) {P : Int} (hP : 0 < P) : contM (scl P z) = P := by
  have hg := gcdQ_nn z
  obtain ⟨g1, g2, g3, g4⟩ := gcdQ_dvd z
  have hpg : ¬ p ∣ gcdQ z := fun h => hd ⟨Int.dvd_trans h g1, Int.dvd_trans h g2, Int.dvd_trans h g3, Int.dvd_trans h g4⟩
  obtain ⟨a, ea⟩ := g1
  obtain ⟨b, eb⟩ := g2
  obtain ⟨c, ec⟩ := g3
  obtain ⟨d, ed⟩ := g4
  have ez : z = scl (gcdQ z) ⟨a, b, c, d⟩ := Hq.ext' ea eb ec ed
  have e4 : n4 z = gcdQ z * gcdQ z * n4 ⟨a, b, c, d⟩ := by
    have : n4 (scl (gcdQ z) ⟨a, b, c, d⟩) = gcdQ z * gcdQ z * n4 ⟨a, b, c, d⟩ := by unfold n4 scl; simp only; grind
    rw [← ez] at this
    exact this
  have ec2 := nrm_core hz
  rw [hn] at ec2
  have hc := sq_four hp hg hpg m (n4 ⟨a, b, c, d⟩) (by rw [← e4, ec2])
  have e5 : gcdQ (scl P z) = P * gcdQ z := gcdQ_scl (by omega) z
  unfold contM
  rw [e5]
  rcases hc with h | h
  · rw [h, Int.mul_one, divQ_scl hP, if_pos hz]
  · rw [h] at ez ⊢
    have e6 : scl P z = scl (P * 2) ⟨a, b, c, d⟩ := by
      rw [← scl_scl, ← ez]
    rw [e6, divQ_scl (by omega)]
    have hnot : ¬ IsN ⟨a, b, c, d⟩ := fun hI => by
      have e7 := nrm_scl hI 2
      rw [← ez, hn] at e7
      have := pow_odd hp m
      omega
    rw [if_neg hnot]
    exact Int.mul_ediv_cancel _ (by decide)
section
variable {p : Int} {N u : Hq} {n s : Nat} {xs : List Hq}
theorem Dec.let (hp : IsP p) (D : Dec p N n s xs u) : ∀ x ∈ xs, Let p x := fun x hx => Let.of hp (D.mem x hx)
theorem unit_prim (hp : IsP p) {X v : Hq} (hX : IsN X) (hv : v ∈ unitsM) (h : ¬ Dv p X) : ¬ Dv p (mul X v) := fun d => h (by
  have := Dv.mulr hp (mul_isN hX (unit_isN hv)) (cj_isN (unit_isN hv)) d
  rwa [mul_assoc' hX (unit_isN hv) (cj_isN (unit_isN hv)), unit_inv hv, mul_one'] at this)
theorem prod_nrm (hp : IsP p) {ys : List Hq} (h : ∀ x ∈ ys, x ∈ LsV p) : IsN (prodQ ys) ∧ nrm (prodQ ys) = p ^ ys.length := TPW.prodQ_nrm fun x hx => LsV_ok hp x (h x hx)
theorem left_facts (hp : IsP p) {ys : List Hq} (h : ∀ x ∈ ys, x ∈ LsV p) (hR : Red p ys) (hu : u ∈ unitsM) : IsN (mul (prodQ ys) u) ∧ nrm (mul (prodQ ys) u) = p ^ ys.length ∧ ¬ Dv p (mul (prodQ ys) u) := by
  obtain ⟨h1, h2⟩ := prod_nrm hp h
  refine ⟨mul_isN h1 (unit_isN hu), ?_, unit_prim hp h1 hu (red_prim hp ys (fun x hx => Let.of hp (h x hx)) hR)⟩
  rw [nrm_mul h1 (unit_isN hu), h2, unit_nrm u hu, Int.mul_one]
theorem Dec.cont (hp : IsP p) (D : Dec p N n s xs u) : contM N = p ^ s ∧ divQ N (p ^ s) = mul (prodQ xs) u := by
  obtain ⟨h1, h2, h3⟩ := left_facts hp D.mem D.red D.unit
  have p3 := (TPW.isP_rng hp).1
  have hP : 0 < p ^ s := Int.pow_pos (by omega)
  rw [D.eq]
  exact ⟨cont_ok hp h1 h2 h3 hP, divQ_scl hP _⟩
theorem Dec.norm (hp : IsP p) (D : Dec p N n s xs u) : nrm N = p ^ n := by
  obtain ⟨h1, h2, h3⟩ := left_facts hp D.mem D.red D.unit
  rw [D.eq, nrm_scl h1, h2, ← D.len, ← Int.pow_add, ← Int.pow_add, show s + s = 2 * s by omega]
theorem Dec.nz (hp : IsP p) (D : Dec p N n s xs u) : N ≠ zero := fun e => by
  have h := D.norm hp
  rw [e, nrm_zero] at h
  have p3 := (TPW.isP_rng hp).1
  have : 0 < p ^ n := Int.pow_pos (by omega)
  omega
theorem first_letter (hp : IsP p) {l Y g x : Hq} (hl : l ∈ LsV p) (hY : IsN Y) (hd : ¬ Dv p (mul l Y)) (hg : IsN g) (hG : Gcd (mul l Y) (scl p one) g) (hc : IsCanon g x) : x = l := by
  obtain ⟨hlN, hln⟩ := LsV_ok hp l hl
  have p3 := (TPW.isP_rng hp).1
  obtain ⟨z, hz, ez⟩ := hG.1 l hlN ⟨Y, hY, rfl⟩ ⟨cj l, cj_isN hlN, by rw [mul_cj hlN, hln]⟩
  obtain ⟨h, hh, eh⟩ := hG.2.1
  obtain ⟨e, he, ee⟩ := hG.2.2
  have hnz := nrm_nonneg z
  have hne := nrm_nonneg e
  have en : nrm z * nrm e = p := by
    have e1 := nrm_mul hg he
    rw [← ee, ez, nrm_mul hlN hz, hln, nrm_scl one_isN, nrm_one] at e1
    refine Int.eq_of_mul_eq_mul_left (a := p) (by omega) ?_
    have : p * (nrm z * nrm e) = p * nrm z * nrm e := by grind
    omega
  have hcases : nrm z = 1 ∨ nrm e = 1 := by
    have hpd : p ∣ nrm z * nrm e := by rw [en]; exact Int.dvd_refl p
    rcases isP_dvd hp hpd with ⟨k, hk⟩ | ⟨k, hk⟩
    · rw [hk] at en
      have : k * nrm e = 1 := Int.eq_of_mul_eq_mul_left (a := p) (by omega) (by rw [← Int.mul_assoc, en, Int.mul_one])
      right
      have h3 : nrm e ∣ 1 := ⟨k, by rw [Int.mul_comm]; exact this.symm⟩
      exact Int.eq_one_of_dvd_one hne h3
    · rw [hk] at en
      have : nrm z * k = 1 := Int.eq_of_mul_eq_mul_left (a := p) (by omega) (by rw [Int.mul_one]; refine Eq.trans ?_ en; grind)
      left
      exact Int.eq_one_of_dvd_one hnz ⟨k, this.symm⟩
  rcases hcases with h1 | h1
  · have hzu := unit_of hz h1
    have hgn : nrm g = p := by rw [ez, nrm_mul hlN hz, hln, h1, Int.mul_one]
    obtain ⟨hm, hx⟩ := hc
    obtain ⟨v, hv, rfl⟩ := List.mem_map.mp hm
    have hvN := unit_isN hv
    have el : l = mul g (cj z) := by rw [ez, mul_assoc' hlN hz (cj_isN hz), unit_inv hzu, mul_one']
    have k1 : ¬ ql (mul g v) < ql l := by
      have := hx _ (List.mem_map_of_mem (f := mul g) (unit_cj z hzu))
      rw [← el] at this
      exact this
    have k2 : ¬ ql l < ql (mul g v) := by
      have := LsV_canon hp l hl (mul z v) (unit_mul z hzu v hv)
      rw [← mul_assoc' hlN hz hvN, ← ez] at this
      exact this
    exact ql_anti k1 k2
  · have heu := unit_of he h1
    exfalso
    apply hd
    have eg : g = scl p (cj e) := by
      have e1 : mul (mul g e) (cj e) = g := by rw [mul_assoc' hg he (cj_isN he), unit_inv heu, mul_one']
      rw [← e1, ← ee, scl_one_mul (cj_isN he)]
    rw [eh, eg, scl_mul (cj_isN he) hh]
    exact Dv.scl p (Int.dvd_refl p)
end
end TP
namespace TPW
open PySem PySem.Spec PyProof.Rows L2 TP
open RZ (ItzT pi_zipA iZipA)
open C8 (Cal Def cal0 pe_c fnScope fnBody fnArgs fnScope_by pe_gc)
theorem u65_of {k : Nat} {A : Around} (r : Room k A) : A.units + 65 < cLine := by
  have := r.un
  omega
theorem red_right {p : Int} : ∀ (a b : List Hq), Red p (a ++ b) → Red p b
  | [], b, h => h
  | x :: a, b, h => red_right a b (red_tail x (a ++ b) h)
def ixN (p : Int) (x : Hq) : Nat := (LsV p).idxOf x
def ixM (p : Int) (x : Hq) : Int := ((ixN p x : Nat) : Int) + 1
def ixs (p : Int) (xs : List Hq) : List Int := xs.map (ixM p)
theorem ixs_snoc (p : Int) (ds : List Hq) (l : Hq) : ixs p (ds ++ [l]) = ixs p ds ++ [ixM p l] := List.map_append
theorem two_one (p : Int) : scl p one = ⟨2 * p, 0, 0, 0⟩ := by
  apply Hq.ext' <;> simp [scl, one]
  omega
theorem ix_at {p : Int} {x : Hq} (h : x ∈ LsV p) : (LsV p)[ixN p x]? = some x := by
  have h1 := List.idxOf_lt_length_of_mem h
  unfold ixN
  rw [List.getElem?_eq_getElem h1, List.getElem_idxOf h1]
theorem ix_first {p : Int} (hp : IsP p) {x : Hq} (h : x ∈ LsV p) : ∀ m, m < ixN p x → (LsV p)[m]? ≠ some x := fun m hm e => by
  have h1 := ix_at h
  obtain ⟨h2, e2⟩ := List.getElem?_eq_some_iff.mp e
  obtain ⟨h3, e3⟩ := List.getElem?_eq_some_iff.mp h1
  have h4 := List.pairwise_iff_getElem.mp (LsV_nodup hp) m (ixN p x) h2 h3 hm
  exact h4 (e2.trans e3.symm)
theorem ixM_inj {p : Int} {x y : Hq} (hx : x ∈ LsV p) (hy : y ∈ LsV p) (h : ixM p x = ixM p y) : x = y := by
  have e : ixN p x = ixN p y := by unfold ixM at h; omega
  have h1 := ix_at hx
  rw [e, ix_at hy] at h1
  exact (Option.some.inj h1).symm
section
variable {P : Program} {w : World} {K : PySem.W.Frag} {mg : Str → Option Value} {base : Heap}
def spWordOf (K : PySem.W.Frag) : Sp := fun vs H Q _ => ∃ p v N n s xs u, vs = [.int p, v] ∧ IsP p ∧ IsQ K v N H ∧ Dec p N n s xs u ∧ n ≤ 10 ∧ ∀ t x y z H', Same H H' → SqT K H' t [x, y, z] → IsTI K y (ixs p xs) H' → Q (.ref t) H'
theorem c_word_of (T : TopOk K mg) : Cal P w K mg base 8 "word_of" (spWordOf K) [] := by
  refine mkcal T.d_word_of sc_word_of (fun vs H Q E h => ?_) (fun f cdv A outer s H vs Q E hr h => ?_)
  · obtain ⟨p, v, N, n, s, xs, u, rfl, _⟩ := h
    rfl
  · obtain ⟨p, v, N, n, s0, xs, u, rfl, hp, hv, hD, hn, k⟩ := h
    refine ⟨_, (pss_cons (ps_expr (pe_c (c_check_prime T) hr (by decide) rfl (pa_cons (pv 0) pa_nil)))
      (pss_cons (ps_expr (pe_c (c_check_not_zero T) hr (by decide) rfl (pa_cons (pv 1) pa_nil)))
      (pss_cons (ps_if (pt_cmpR op_isN (pe_c (c_power_of T) hr (by decide) rfl (pa_cons (pv 0) (pa_cons (pe_c (c_norm T) hr (by decide) rfl (pa_cons (pv 1) pa_nil)) pa_nil))) pe_non (nomark _)) pss_never pss_nil)
      (pss_cons (ps_set (i := 2) sc_word_of.nd rfl (Or.inl rfl) (pe_c (c_letters T) hr (by decide) rfl (pa_cons (pv 0) pa_nil)))
      (pss_cons (ps_set (i := 3) sc_word_of.nd rfl (Or.inl rfl) (pe_c (c_primitive_part T) hr (by decide) rfl (pa_cons (pv 1) pa_nil)))
      (pss_cons (ps_set (i := 4) sc_word_of.nd rfl (Or.inl rfl) (pe_lst pa_nil))
      (pss_cons (ps_while PassesOwn.never (pt_not (pt_val (pe_c (c_is_unit T) hr (by decide) rfl (pa_cons (pv 3) pa_nil)))) (pss_cons (ps_set (i := 5) sc_word_of.nd rfl (Or.inl rfl) (pe_c (c_left_common T) hr (by decide) rfl (pa_cons (pv 3) (pa_cons (pe_tup (pa_cons (pe_op op_mul pe_int (pv 0)) (pa_cons pe_int (pa_cons pe_int (pa_cons pe_int pa_nil))))) pa_nil))))
      (pss_cons (ps_expr (pe_bm PySem.F.plainAttrs_list PySem.F.slot_list_append PySem.F.type_list_append mt_append (pv 4) (pa_cons (pe_op op_add (pe_bm PySem.F.plainAttrs_list PySem.F.slot_list_index PySem.F.type_list_index (mt_indexT (u65_of hr)) (pv 2) (pa_cons (pv 5) pa_nil)) pe_int) pa_nil)))
      (pss_one (ps_set (i := 3) sc_word_of.nd rfl (Or.inl rfl) (pe_c (c_left_quotient T) hr (by decide) rfl (pa_cons (pv 3) (pa_cons (pv 5) pa_nil))))))))
      (pss_one (ps_ret (pe_tup (pa_cons (pe_c (c_power_of T) hr (by decide) rfl (pa_cons (pv 0) (pa_cons (pe_c (c_content T) hr (by decide) rfl (pa_cons (pv 1) pa_nil)) pa_nil))) (pa_cons (pe_callTy call_tuple_of (by rfl) T.m_tuple (by decide +kernel) (pa_cons (pv 4) pa_nil)) (pa_cons (pv 3) pa_nil))))))))))))), ?_⟩
    rw [show L2.start N_word_of [.int p, v] = [some (.int p), some v, none, none, none, none] from rfl]
    have hN := hD.isN hp
    have hZ := hD.nz hp
    have hnm := hD.norm hp
    obtain ⟨hct, hdv⟩ := hD.cont hp
    have hlen := hD.len
    have bN : Bs 20 N := bs_of_nrm hN (by rw [hnm]; exact pow_lt38 hp hn)
    have p3 := (isP_rng hp).1
    have hP : 0 < p ^ s0 := Int.pow_pos (by omega)
    refine ⟨_, rfl, p, rfl, hp, fun H1 s1 => ?_⟩
    refine ⟨_, rfl, v, N, rfl, hv.same s1, hN, hZ, fun H2 s2 => ?_⟩
    have s12 := s1.trans s2
    refine ⟨_, rfl, _, rfl, v, N, rfl, hv.same s12, hN, bN.bd (by decide), fun H3 s3 => ?_⟩
    have s13 := s12.trans s3
    rw [hnm]
    refine ⟨p, n, rfl, hp, hn, fun H4 s4 => ⟨rfl, false, rfl, iteF ?_⟩⟩
    have s14 := s13.trans s4
    refine ⟨_, rfl, p, rfl, hp, fun kn H5 s5 hkn => ?_⟩
    have s15 := s14.trans s5
    simp only [List.set_cons_succ, List.set_cons_zero]
    refine ⟨_, rfl, v, N, rfl, hv.same s15, hN, hZ, bN.bd (by decide), by rw [hct]; exact hP, fun z H6 s6 hz => ?_⟩
    rw [hct, hdv] at hz
    have hkn6 := hkn.same s6
    have s16 := s15.trans s6
    simp only [List.set_cons_succ, List.set_cons_zero]
    refine ⟨by show 0 ≤ sizeLine; decide, fun D nD => ?_⟩
    simp only [List.set_cons_succ, List.set_cons_zero]
    have sD := same_new (o := .lst []) nD
    refine ⟨fun m σ H' => ∃ ds ys zz x, xs = ds ++ ys ∧ m = ys.length ∧ σ = [some (.int p), some v, some kn, some zz, some (.ref D), x] ∧ Same H6 H' ∧ H' D = some (.lst ((ixs p ds).map V.int)) ∧ IsQ K zz (mul (prodQ ys) u) H', ⟨_, [], xs, z, none, rfl, rfl, rfl, sD, upd_same, hz.same sD⟩, ?_⟩
    rintro m σ H7 ⟨ds, ys, zz, x0, exs, rfl, rfl, s67, eD, hzz⟩
    have hys : ∀ x ∈ ys, x ∈ LsV p := fun x hx => hD.mem x (by rw [exs]; exact List.mem_append_right _ hx)
    have hds : ds.length ≤ 10 := by rw [exs, List.length_append] at hlen; omega
    have hysl : ys.length ≤ 10 := by rw [exs, List.length_append] at hlen; omega
    have hRy : Red p ys := by
      have h := hD.red
      rw [exs] at h
      exact red_right ds ys h
    obtain ⟨l1, l2, l3⟩ := left_facts hp hys hRy hD.unit
    have lb : nrm (mul (prodQ ys) u) < 2 ^ 38 := by rw [l2]; exact pow_lt38 hp hysl
    refine ⟨_, rfl, zz, _, rfl, hzz, l1, (bs_of_nrm l1 lb).bd (by decide), fun H8 s8 => ⟨_, rfl, ?_⟩⟩
    rw [l2]
    have s68 := s67.trans s8
    have eD8 := s8 _ _ eD
    have hzz8 := hzz.same s8
    cases ys with
    | nil =>
      rw [decide_eq_true (show p ^ ([] : List Hq).length = 1 from Int.pow_zero p)]
      refine iteF ?_
      rw [List.append_nil] at exs
      subst exs
      have s18 := s16.trans s68
      refine ⟨_, rfl, _, rfl, v, N, rfl, hv.same s18, hN, hZ, bN.bd (by decide), fun H9 s9 => ?_⟩
      rw [hct]
      refine ⟨p, s0, rfl, hp, by omega, fun H10 s10 => ?_⟩
      have s810 := s9.trans s10
      refine ⟨_, rfl, D, _, rfl, .inl ⟨SqL.of (s810 _ _ eD8), fun t nt => ?_⟩⟩
      have st := same_new (o := .tup ((ixs p xs).map V.int)) nt
      refine ⟨_, rfl, by show 3 ≤ sizeLine; decide, fun r nr => ?_⟩
      have sr := same_new (o := .tup [.int (s0 : Nat), .ref t, zz]) nr
      exact k r _ _ _ _ (((s18.trans s810).trans st).trans sr) (SqT.of upd_same) (IsTI.new.same sr)
    | cons l r =>
      have hl := hys l (List.mem_cons_self ..)
      have hrs : ∀ x ∈ r, x ∈ LsV p := fun x hx => hys x (List.mem_cons_of_mem _ hx)
      obtain ⟨hlN, hln⟩ := LsV_ok hp l hl
      obtain ⟨r1, r2⟩ := prod_nrm hp hrs
      have huN := unit_isN hD.unit
      have eL : mul (prodQ (l :: r)) u = mul l (mul (prodQ r) u) := by
        rw [prod_cons hlN (fun x hx => (LsV_ok hp x (hrs x hx)).1), mul_assoc' hlN r1 huN]
      have hbig : ¬ p ^ (l :: r).length = 1 := fun e => by
        have h1 : p ^ (r.length + 1) = p ^ r.length * p := Int.pow_succ ..
        have h2 : 0 < p ^ r.length := Int.pow_pos (by omega)
        have h3 : 1 * p ≤ p ^ r.length * p := Int.mul_le_mul_of_nonneg_right (by omega) (by omega)
        rw [List.length_cons] at e
        omega
      rw [decide_eq_false hbig]
      refine iteT ⟨fun σ' H'' => ∃ m', m' < (l :: r).length ∧ ∃ ds ys zz x, xs = ds ++ ys ∧ m' = ys.length ∧ σ' = [some (.int p), some v, some kn, some zz, some (.ref D), x] ∧ Same H6 H'' ∧ H'' D = some (.lst ((ixs p ds).map V.int)) ∧ IsQ K zz (mul (prodQ ys) u) H'', fun σ' H'' h => h, ?_⟩
      have mp : CMul 2 p := cmul_small (by omega) (by omega)
      refine ⟨_, rfl, _, rfl, 2, p, rfl, rfl, mp, by show 4 ≤ sizeLine; decide, fun t nt => ?_⟩
      have st := same_new (o := .tup [.int (2 * p), .int 0, .int 0, .int 0]) nt
      have ht : IsQ K (.ref t) ⟨2 * p, 0, 0, 0⟩ (upd H8 t (.tup [.int (2 * p), .int 0, .int 0, .int 0])) := IsTI.new (ns := [2 * p, 0, 0, 0])
      generalize upd H8 t (.tup [.int (2 * p), .int 0, .int 0, .int 0]) = H9 at st ht ⊢
      have h2N : IsN (⟨2 * p, 0, 0, 0⟩ : Hq) := by rw [← two_one]; exact scl_isN p one_isN
      have h2n : nrm (⟨2 * p, 0, 0, 0⟩ : Hq) = p * p := by rw [← two_one, nrm_scl one_isN, nrm_one, Int.mul_one]
      have hpp : p * p ≤ 121 := Int.mul_le_mul (c := 11) (d := 11) (isP_rng hp).2.2 (isP_rng hp).2.2 (by omega) (by decide)
      have hpq : 0 < p * p := Int.mul_pos (by omega) (by omega)
      refine ⟨zz, .ref t, _, _, rfl, hzz8.same st, ht, l1, h2N, fun e => ?_, bs_of_nrm l1 lb, by omega, fun x g y H10 s10 hg hG hC hx => ?_⟩
      · have e2 : nrm (⟨2 * p, 0, 0, 0⟩ : Hq) = 0 := by rw [e]; exact nrm_zero
        omega
      · rw [eL, ← two_one] at hG
        rw [eL] at l3
        obtain rfl : y = l := first_letter hp hl (mul_isN r1 huN) l3 hg hG hC
        simp only [List.set_cons_succ, List.set_cons_zero]
        have s810 := st.trans s10
        have s610 := s68.trans s810
        obtain ⟨b, ks, rfl, hS, hK⟩ := hkn6.same s610
        refine ⟨.ref D, rfl, .inl ⟨rfl, _, SqL.of (s810 _ _ eD8)⟩, ?_⟩
        refine ⟨.ref b, rfl, .inl ⟨rfl, _, hS⟩, ?_⟩
        refine ⟨_, rfl, x, ql y, (LsV p).map ql, ixN p y, rfl, IsLTT.lt ⟨b, ks, rfl, hS, hK⟩, hx, ?_, fun m hm e => ?_, ?_⟩
        · rw [List.getElem?_map, ix_at hl]; rfl
        · rw [List.getElem?_map] at e
          obtain ⟨q, eq, e2⟩ := Option.map_eq_some_iff.mp e
          rw [ql_inj e2] at eq
          exact ix_first hp hl m hm eq
        · refine ⟨_, 1, rfl, rfl, D, _, _, rfl, rfl, s810 _ _ eD8, ?_, ?_⟩
          · rw [List.length_map]
            unfold ixs
            rw [List.length_map]
            exact small1000 (by omega)
          · have s611 : Same H6 (upd H10 D (.lst ((ixs p ds).map V.int ++ [.int ((ixN p y : Nat) + 1)]))) := same_upd s610 nD
            refine ⟨_, rfl, _, rfl, zz, x, _, y, rfl, (hzz8.same s810).put (s810 _ _ eD8), hx.put (s810 _ _ eD8), l1, hlN, ?_, bs_of_nrm l1 lb, ?_, ?_, fun q H12 s12 hq => ?_⟩
            · intro e
              rw [e, nrm_zero] at hln
              omega
            · exact bs_of_nrm hlN (by rw [hln]; have := (isP_rng hp).2.2; omega)
            · rw [eL]
              refine (quo_exact hlN (mul_isN r1 huN) (fun e => ?_)).2
              rw [e, nrm_zero] at hln
              omega
            · have hq2 : quoM (mul (prodQ (y :: r)) u) y = mul (prodQ r) u := by
                rw [eL]
                refine (quo_exact hlN (mul_isN r1 huN) (fun e => ?_)).1
                rw [e, nrm_zero] at hln
                omega
              rw [hq2] at hq
              refine ⟨r.length, Nat.lt_succ_self _, ds ++ [y], r, q, some x, ?_, rfl, rfl, s611.trans s12, ?_, hq⟩
              · rw [exs]; simp
              · rw [ixs_snoc, List.map_append]
                exact s12 _ _ upd_same
end
end TPW
namespace TPW
open PySem PySem.Spec PyProof.Rows L2 TP
open RZ (ItzT pi_zipA iZipA)
open C8 (Cal Def cal0 pe_c fnScope fnBody fnArgs fnScope_by pe_gc)
theorem prodW_dec {p : Int} (hp : IsP p) {ns : List Int} (hw : IsW p ns) : ∃ xs s u, Dec p (prodW p ns) ns.length s xs u := by
  obtain ⟨s, xs, u, D⟩ := dec_ex hp (ls := ns.map (letM p)) (fun l hl => by
    obtain ⟨n, hn, rfl⟩ := List.mem_map.mp hl
    exact letM_mem hp (hw n hn).1 (hw n hn).2)
  rw [List.length_map] at D
  exact ⟨xs, s, u, D⟩
open Classical in
/-- the letters of the reduced word -/
noncomputable def redL (p : Int) (ns : List Int) : List Hq := if h : ∃ xs s u, Dec p (prodW p ns) ns.length s xs u then h.choose else []
theorem redL_ok {p : Int} (hp : IsP p) {ns : List Int} (hw : IsW p ns) : ∃ s u, Dec p (prodW p ns) ns.length s (redL p ns) u := by
  have h := prodW_dec hp hw
  unfold redL
  rw [dif_pos h]
  exact h.choose_spec
noncomputable def redI (p : Int) (ns : List Int) : List Int := ixs p (redL p ns)
theorem redI_len {p : Int} (hp : IsP p) {ns : List Int} (hw : IsW p ns) : (redI p ns).length ≤ ns.length := by
  obtain ⟨s, u, D⟩ := redL_ok hp hw
  have := D.len
  unfold redI ixs
  rw [List.length_map]
  omega
/-- a word as an argument -/
structure Wd (K : PySem.W.Frag) (p : Int) (u : V) (ns : List Int) (H : Hp) : Prop where
  ti : IsTI K u ns H
  w : IsW p ns
  len : ns.length ≤ 10
theorem Wd.same {K : PySem.W.Frag} {p : Int} {u : V} {ns : List Int} {H H' : Hp} (s : Same H H') (h : Wd K p u ns H) : Wd K p u ns H' := ⟨h.ti.same s, h.w, h.len⟩
section
variable {P : Program} {w : World} {K : PySem.W.Frag} {mg : Str → Option Value} {base : Heap}
def spReduced (K : PySem.W.Frag) : Sp := fun vs H Q _ => ∃ p u ns, vs = [.int p, u] ∧ IsP p ∧ Wd K p u ns H ∧ ∀ t x y z H', Same H H' → SqT K H' t [x, y, z] → IsTI K y (redI p ns) H' → Q (.ref t) H'
theorem c_reduced (T : TopOk K mg) : Cal P w K mg base 9 "reduced" (spReduced K) [] := by
  refine mkcal T.d_reduced sc_reduced (fun vs H Q E h => ?_) (fun f cdv A outer s H vs Q E hr h => ?_)
  · obtain ⟨p, u, ns, rfl, _⟩ := h
    rfl
  · obtain ⟨p, u, ns, rfl, hp, hu, k⟩ := h
    refine ⟨_, (pss_one (ps_ret (pe_c (c_word_of T) hr (by decide) rfl (pa_cons (pv 0) (pa_cons (pe_c (c_product_at T) hr (by decide) rfl (pa_cons (pv 0) (pa_cons (pv 1) pa_nil))) pa_nil))))), ?_⟩
    obtain ⟨s0, u0, D⟩ := redL_ok hp hu.w
    refine ⟨_, rfl, _, rfl, _, rfl, p, u, ns, rfl, hp, hu.ti, hu.w, hu.len, fun z H1 s1 hz => ?_⟩
    exact ⟨p, z, _, _, s0, _, u0, rfl, hp, hz, D, hu.len, fun t x y zz H2 s2 ht hy => k t x y zz H2 (s1.trans s2) ht hy⟩

/-! ### meeting -/
def lcp : List Int → List Int → Nat
  | x :: a, y :: b => if x = y then lcp a b + 1 else 0
  | _, _ => 0
theorem lcp_le : ∀ a b : List Int, lcp a b ≤ a.length ∧ lcp a b ≤ b.length
  | [], b => by simp [lcp]
  | x :: a, [] => by simp [lcp]
  | x :: a, y :: b => by
    have h := lcp_le a b
    unfold lcp
    split
    · simp only [List.length_cons]; omega
    · exact ⟨Nat.zero_le _, Nat.zero_le _⟩
/-- one item from i on -/
def cut1 (a : List Int) (i : Nat) : List Int := (a.drop i).take 1
theorem lcp_at : ∀ (a b : List Int) (i : Nat), i ≤ lcp a b → ((cut1 a i = cut1 b i ∧ cut1 b i ≠ []) ↔ i < lcp a b)
  | [], b, i, h => by
    simp only [lcp] at h ⊢
    have e : i = 0 := by omega
    subst e
    simp only [cut1, List.drop_nil, List.take_nil]
    constructor
    · rintro ⟨h1, h2⟩; exact absurd h1.symm h2
    · intro h; omega
  | x :: a, [], i, h => by
    simp only [lcp] at h ⊢
    have e : i = 0 := by omega
    subst e
    simp [cut1]
  | x :: a, y :: b, i, h => by
    cases i with
    | zero =>
      unfold lcp
      by_cases e : x = y
      · rw [if_pos e]
        simp [cut1, e]
      · rw [if_neg e]
        simp [cut1, e]
    | succ i =>
      unfold lcp at h ⊢
      by_cases e : x = y
      · rw [if_pos e] at h ⊢
        have := lcp_at a b i (by omega)
        simp only [cut1, List.drop_succ_cons] at this ⊢
        rw [this]
        omega
      · rw [if_neg e] at h
        omega
theorem cutV1 (ns : List Int) (i : Nat) (h : i ≤ ns.length) : cutV (ns.map V.int) (some (i : Nat)) (some ((i : Int) + 1)) = (cut1 ns i).map V.int := by
  unfold cutV cut1
  rw [show ((i : Int) + 1) = (((i + 1 : Nat)) : Int) by omega, HT.sIx_nat, HT.sIx_nat, List.length_map, Nat.min_eq_left h, List.map_take, List.map_drop]
  by_cases h1 : i + 1 ≤ ns.length
  · rw [Nat.min_eq_left h1, show i + 1 - i = 1 by omega]
  · have e : i = ns.length := by omega
    rw [List.drop_of_length_le (by rw [List.length_map]; omega)]
    simp
theorem cutV0 (ns : List Int) (i : Nat) : cutV (ns.map V.int) none (some (i : Nat)) = (ns.take i).map V.int := by
  unfold cutV
  rw [HT.sIx_nat, HT.sIx_none, List.length_map, List.drop_zero, Nat.sub_zero, List.map_take]
  by_cases h : i ≤ ns.length
  · rw [Nat.min_eq_left h]
  · rw [Nat.min_eq_right (by omega), List.take_of_length_le (by rw [List.length_map]; exact Nat.le_refl _), List.take_of_length_le (by rw [List.length_map]; omega)]
/-- a slice of a tuple of ints -/
theorem slT {x : V} {ns ms : List Int} {lo hi : Option Int} {H : Hp} {Q : VK} (hx : IsTI K x ns H) (e : cutV (ns.map V.int) lo hi = ms.map V.int) (k : ∀ y H', Same H H' → IsTI K y ms H' → Q y H') : rSlA K x lo hi H Q := by
  obtain ⟨a, rfl, ha⟩ := hx
  refine ⟨a, _, rfl, ha, fun hw => ?_, fun _ p np => ?_⟩
  · refine k _ H (Same.refl _) ⟨a, rfl, ?_⟩
    have e2 : cutV (ns.map V.int) lo hi = ns.map V.int := by
      unfold cutV
      rw [hw.1, hw.2, List.drop_zero, Nat.sub_zero, List.take_of_length_le (Nat.le_refl _)]
    rw [← e, e2]
    exact ha
  · rw [e]
    exact k _ _ (same_new np) IsTI.new
def spMeeting (K : PySem.W.Frag) : Sp := fun vs H Q _ => ∃ p u v ns ms, vs = [.int p, u, v] ∧ IsP p ∧ Wd K p u ns H ∧ Wd K p v ms H ∧ ∀ y H', Same H H' → IsTI K y ((redI p ns).take (lcp (redI p ns) (redI p ms))) H' → Q y H'
theorem c_meeting (T : TopOk K mg) : Cal P w K mg base 10 "meeting" (spMeeting K) [] := by
  refine mkcal T.d_meeting sc_meeting (fun vs H Q E h => ?_) (fun f cdv A outer s H vs Q E hr h => ?_)
  · obtain ⟨p, u, v, ns, ms, rfl, _⟩ := h
    rfl
  · obtain ⟨p, u, v, ns, ms, rfl, hp, hu, hv, k⟩ := h
    refine ⟨_, (pss_cons (ps_set (i := 3) sc_meeting.nd rfl (Or.inl rfl) (pe_ix ix_tup (pe_c (c_reduced T) hr (by decide) rfl (pa_cons (pv 0) (pa_cons (pv 1) pa_nil))) pe_int (fun _ _ => rfl)))
      (pss_cons (ps_set (i := 4) sc_meeting.nd rfl (Or.inl rfl) (pe_ix ix_tup (pe_c (c_reduced T) hr (by decide) rfl (pa_cons (pv 0) (pa_cons (pv 2) pa_nil))) pe_int (fun _ _ => rfl)))
      (pss_cons (ps_set (i := 5) sc_meeting.nd rfl (Or.inl rfl) pe_int)
      (pss_cons (ps_while PassesOwn.never (pt_chain (op_eqT hr.units) (op_neT hr.units) (pe_slice sl_tupA (pv 3) (po_some (pv 5)) (po_some (pe_op op_add (pv 5) pe_int))) (pe_slice sl_tupA (pv 4) (po_some (pv 5)) (po_some (pe_op op_add (pv 5) pe_int))) (pe_tup pa_nil)) (pss_one (ps_aug (i := 5) sc_meeting.nd rfl (Or.inl rfl) pe_int ip_add)))
      (pss_one (ps_ret (pe_slice sl_tupA (pv 3) po_none (po_some (pv 5))))))))), ?_⟩
    rw [show L2.start N_meeting [.int p, u, v] = [some (.int p), some u, some v, none, none, none] from rfl]
    refine ⟨_, rfl, _, rfl, p, u, ns, rfl, hp, hu, fun t x y z H1 s1 ht hy => ?_⟩
    refine ⟨t, _, 1, y, rfl, rfl, ht, atI_nat (j := 1) rfl, ?_⟩
    simp only [List.set_cons_succ, List.set_cons_zero]
    refine ⟨_, rfl, _, rfl, p, v, ms, rfl, hp, hv.same s1, fun t2 x2 y2 z2 H2 s2 ht2 hy2 => ?_⟩
    refine ⟨t2, _, 1, y2, rfl, rfl, ht2, atI_nat (j := 1) rfl, ?_⟩
    simp only [List.set_cons_succ, List.set_cons_zero]
    have s12 := s1.trans s2
    have hy' := hy.same s2
    obtain ⟨l1, l2⟩ := lcp_le (redI p ns) (redI p ms)
    refine ⟨fun m σ H' => ∃ i : Nat, i ≤ lcp (redI p ns) (redI p ms) ∧ m = lcp (redI p ns) (redI p ms) - i ∧ σ = [some (.int p), some u, some v, some y, some y2, some (.int (i : Nat))] ∧ Same H2 H', ⟨_, 0, Nat.zero_le _, rfl, rfl, Same.refl _⟩, ?_⟩
    rintro m σ H3 ⟨i, hi, rfl, rfl, s3⟩
    refine ⟨_, rfl, _, rfl, _, rfl, _, rfl, _, 1, rfl, rfl, _, rfl, ?_⟩
    have hy3 := hy'.same s3
    have hy23 := hy2.same s3
    refine slT hy3 (cutV1 _ i (by omega)) fun a H4 s4 ha => ?_
    refine ⟨_, rfl, _, rfl, _, rfl, _, rfl, _, 1, rfl, rfl, _, rfl, ?_⟩
    refine slT (hy23.same s4) (cutV1 _ i (by omega)) fun b H5 s5 hb => ?_
    have hat := lcp_at (redI p ns) (redI p ms) i hi
    have hFin : ∀ H6, Same H2 H6 → ¬ i < lcp (redI p ns) (redI p ms) → tRet (tSl (rSlA K) (tVar 3) tNoPart (tPart (tVar 5))) { nx := fun x H' => Q V.non H', rt := Q } [some (.int p), some u, some v, some y, some y2, some (.int (i : Nat))] H6 := fun H6 s6 hlt => by
      have e : i = lcp (redI p ns) (redI p ms) := by omega
      refine ⟨_, rfl, _, rfl, _, rfl, ?_⟩
      refine slT (hy'.same s6) (cutV0 _ i) fun r H7 s7 hr7 => ?_
      rw [e] at hr7
      exact k r H7 (s12.trans (s6.trans s7)) hr7
    have s35 := s3.trans (s4.trans s5)
    refine ⟨_, _, ha.same s5, hb, _, rfl, ?_⟩
    by_cases c1 : cut1 (redI p ns) i = cut1 (redI p ms) i
    · rw [decide_eq_true c1]
      refine iteT ?_
      refine ⟨by show 0 ≤ sizeLine; decide, fun e0 ne => ?_⟩
      have se := same_new (o := .tup []) ne
      refine ⟨_, [], hb.same se, IsTI.new (ns := []), _, rfl, ?_⟩
      by_cases c2 : cut1 (redI p ms) i = []
      · rw [decide_eq_true c2]
        exact iteF (hFin _ (s35.trans se) fun h => (hat.mpr h).2 c2)
      · rw [decide_eq_false c2]
        have hlt := hat.mp ⟨c1, c2⟩
        refine iteT ⟨fun σ' H'' => ∃ m', m' < lcp (redI p ns) (redI p ms) - i ∧ ∃ i : Nat, i ≤ lcp (redI p ns) (redI p ms) ∧ m' = lcp (redI p ns) (redI p ms) - i ∧ σ' = [some (.int p), some u, some v, some y, some y2, some (.int (i : Nat))] ∧ Same H2 H'', fun σ' H'' h => h, ?_⟩
        exact ⟨_, rfl, _, 1, rfl, rfl, lcp (redI p ns) (redI p ms) - (i + 1), by omega, i + 1, by omega, rfl, rfl, s35.trans se⟩
    · rw [decide_eq_false c1]
      exact iteF ⟨_, rfl, iteF (hFin _ s35 fun h => c1 (hat.mpr h).1)⟩
/-! ### distance -/
def distI (a b : List Int) : Int := (a.length : Int) + (b.length : Int) - 2 * ((lcp a b : Nat) : Int)
def spDistance (K : PySem.W.Frag) : Sp := fun vs H Q _ => ∃ p u v ns ms, vs = [.int p, u, v] ∧ IsP p ∧ Wd K p u ns H ∧ Wd K p v ms H ∧ ∀ H', Same H H' → Q (.int (distI (redI p ns) (redI p ms))) H'
theorem c_distance (T : TopOk K mg) : Cal P w K mg base 11 "distance" (spDistance K) [] := by
  refine mkcal T.d_distance sc_distance (fun vs H Q E h => ?_) (fun f cdv A outer s H vs Q E hr h => ?_)
  · obtain ⟨p, u, v, ns, ms, rfl, _⟩ := h
    rfl
  · obtain ⟨p, u, v, ns, ms, rfl, hp, hu, hv, k⟩ := h
    refine ⟨_, (pss_cons (ps_set (i := 3) sc_distance.nd rfl (Or.inl rfl) (pe_callB call_len_seq (by rfl) T.m_len (by decide +kernel) (pa_cons (pe_c (c_meeting T) hr (by decide) rfl (pa_cons (pv 0) (pa_cons (pv 1) (pa_cons (pv 2) pa_nil)))) pa_nil)))
      (pss_one (ps_ret (pe_op op_sub (pe_op op_add (pe_callB call_len_seq (by rfl) T.m_len (by decide +kernel) (pa_cons (pe_ix ix_tup (pe_c (c_reduced T) hr (by decide) rfl (pa_cons (pv 0) (pa_cons (pv 1) pa_nil))) pe_int (fun _ _ => rfl)) pa_nil)) (pe_callB call_len_seq (by rfl) T.m_len (by decide +kernel) (pa_cons (pe_ix ix_tup (pe_c (c_reduced T) hr (by decide) rfl (pa_cons (pv 0) (pa_cons (pv 2) pa_nil))) pe_int (fun _ _ => rfl)) pa_nil))) (pe_op op_mul pe_int (pv 3)))))), ?_⟩
    rw [show L2.start N_distance [.int p, u, v] = [some (.int p), some u, some v, none] from rfl]
    refine ⟨_, rfl, _, rfl, _, rfl, p, u, v, ns, ms, rfl, hp, hu, hv, fun y H1 s1 hy => ?_⟩
    obtain ⟨a, rfl, ha⟩ := hy
    refine ⟨a, _, rfl, .inr ha, ?_⟩
    simp only [List.set_cons_succ, List.set_cons_zero]
    refine ⟨_, rfl, _, rfl, p, u, ns, rfl, hp, hu.same s1, fun t x y z H2 s2 ht hy => ?_⟩
    refine ⟨t, _, 1, y, rfl, rfl, ht, atI_nat (j := 1) rfl, ?_⟩
    obtain ⟨b, rfl, hb⟩ := hy
    refine ⟨b, _, rfl, .inr hb, ?_⟩
    have s12 := s1.trans s2
    refine ⟨_, rfl, _, rfl, p, v, ms, rfl, hp, hv.same s12, fun t x y z H3 s3 ht hy => ?_⟩
    refine ⟨t, _, 1, y, rfl, rfl, ht, atI_nat (j := 1) rfl, ?_⟩
    obtain ⟨c, rfl, hc⟩ := hy
    refine ⟨c, _, rfl, .inr hc, ?_⟩
    refine ⟨_, _, rfl, rfl, ?_⟩
    obtain ⟨l1, l2⟩ := lcp_le (redI p ns) (redI p ms)
    have r1 := redI_len hp hu.w
    have r2 := hu.len
    refine ⟨_, rfl, 2, _, rfl, rfl, cmul_small (by decide) (by decide), _, _, rfl, rfl, ?_⟩
    have e : ((((redI p ns).map V.int).length : Nat) : Int) + ((((redI p ms).map V.int).length : Nat) : Int) - 2 * (((((redI p ns).take (lcp (redI p ns) (redI p ms))).map V.int).length : Nat) : Int) = distI (redI p ns) (redI p ms) := by
      unfold distI
      rw [List.length_map, List.length_map, List.length_map, List.length_take, Nat.min_eq_left l1]
    show Q (.int (((((redI p ns).map V.int).length : Nat) : Int) + ((((redI p ms).map V.int).length : Nat) : Int) - 2 * (((((redI p ns).take (lcp (redI p ns) (redI p ms))).map V.int).length : Nat) : Int))) H3
    rw [e]
    exact k H3 (s12.trans s3)
end
end TPW
namespace TPW
open PySem PySem.Spec PyProof.Rows L2 TP
open RZ (ItzT pi_zipA iZipA)
open C8 (Cal Def cal0 pe_c fnScope fnBody fnArgs fnScope_by pe_gc)
/-! ### max of (int, tuple of ints) -/
def IsP2 (K : PySem.W.Frag) (v : V) (b : Int × List Int) (H : Hp) : Prop := ∃ t y, v = .ref t ∧ SqT K H t [.int b.1, y] ∧ IsTI K y b.2 H
theorem mono_p2 {K : PySem.W.Frag} {v : V} {b : Int × List Int} : Mono (IsP2 K v b) := Mono.ex fun _ => Mono.ex fun _ => Mono.pure.and (Mono.sqt.and mono_ti)
def toB (b : Int × List Int) : Int × PySem.W.Tup Int := (b.1, ⟨b.2⟩)
theorem dp_p2 {K : PySem.W.Frag} {H : Hp} {v : V} {b : Int × List Int} (h : IsP2 K v b H) : Dp K H v (PySem.W.Datum.toD (toB b)) := by
  obtain ⟨t, y, rfl, h1, h2⟩ := h
  exact .tup h1 (.cons (.int _) (.cons (dp_ti h2) .nil))
theorem dp_p2s {K : PySem.W.Frag} {H : Hp} : ∀ {vs : List V} {bs : List (Int × List Int)}, Paired (fun v b => IsP2 K v b H) vs bs → DpAll K H vs (bs.map fun b => PySem.W.Datum.toD (toB b))
  | _, _, .nil => .nil
  | _, _, .cons h t => .cons (dp_p2 h) (dp_p2s t)
theorem maxOf_top : ∀ (xs : List (Int × PySem.W.Tup Int)) (x : Int × PySem.W.Tup Int), x.1 ≤ (PySem.W.maxOf x xs).1 ∧ ∀ y ∈ xs, y.1 ≤ (PySem.W.maxOf x xs).1
  | [], x => ⟨Int.le_refl _, fun _ h => by cases h⟩
  | y :: xs, x => by
    have e : PySem.W.maxOf x (y :: xs) = PySem.W.maxOf (if PySem.W.DatumOrd.lt x y = true then y else x) xs := rfl
    rw [e]
    by_cases c : PySem.W.DatumOrd.lt x y = true
    · rw [if_pos c]
      obtain ⟨h1, h2⟩ := maxOf_top xs y
      have h3 : x.1 ≤ y.1 := by
        have c2 : (if x.1 = y.1 then PySem.W.DatumOrd.lt x.2 y.2 else decide (x.1 < y.1)) = true := c
        by_cases q : x.1 = y.1
        · omega
        · rw [if_neg q] at c2
          have := of_decide_eq_true c2
          omega
      refine ⟨by omega, fun z hz => ?_⟩
      rcases List.mem_cons.mp hz with rfl | hz
      · exact h1
      · exact h2 z hz
    · rw [if_neg c]
      obtain ⟨h1, h2⟩ := maxOf_top xs x
      have h3 : y.1 ≤ x.1 := by
        have c2 : ¬ (if x.1 = y.1 then PySem.W.DatumOrd.lt x.2 y.2 else decide (x.1 < y.1)) = true := c
        by_cases q : x.1 = y.1
        · omega
        · rw [if_neg q, decide_eq_true_eq] at c2
          omega
      refine ⟨h1, fun z hz => ?_⟩
      rcases List.mem_cons.mp hz with rfl | hz
      · omega
      · exact h2 z hz
theorem toD_inj {a b : Int × PySem.W.Tup Int} (h : PySem.W.Datum.toD a = PySem.W.Datum.toD b) : a = b := by
  have e := PySem.W.Datum.eqv a b
  have e2 := PySem.W.Datum.eqv b b
  rw [h] at e
  rw [e] at e2
  simpa using e2
theorem vals_at : ∀ {xs : List V} {us : List Value} {i : Nat} {v : Value}, Vals xs us → us[i]? = some v → ∃ y, xs[i]? = some y ∧ RelV y v
  | _, _, i, v, .nil, e => by simp at e
  | x :: xs, u :: us, 0, v, .cons r _, e => ⟨x, rfl, by cases e; exact r⟩
  | x :: xs, u :: us, i + 1, v, .cons _ t, e => vals_at (i := i) t e
def rMaxP (K : PySem.W.Frag) : List V → Hp → VK → Prop := fun vs H Q => ∃ (a : Addr) (ys : List V) (b : Int × List Int) (bs : List (Int × List Int)), vs = [.ref a] ∧ SqL K H a ys ∧ Paired (fun v b => IsP2 K v b H) ys (b :: bs) ∧
  ∀ (i : Nat) v c, ys[i]? = some v → (b :: bs)[i]? = some c → (∀ d ∈ b :: bs, d.1 ≤ c.1) → Q v H
section
variable {X : Cx}
theorem depth_b (b : Int × List Int) : (PySem.W.Datum.toD (toB b)).depth ≤ 2 := PySem.W.Datum.depth_le (toB b)
theorem depth_bs : ∀ bs : List (Int × List Int), PyData.depthAll (bs.map fun b => PySem.W.Datum.toD (toB b)) ≤ 2
  | [] => by simp [PyData.depthAll]
  | b :: bs => by
    have h1 := depth_b b
    have h2 := depth_bs bs
    simp only [List.map_cons, PyData.depthAll]
    omega
theorem cr_maxP (hc : X.calm = true) (hu : X.A.units + 64 < cLine) : CallR X (.builtin "max") (rMaxP X.K) := by
  intro pins s σ H vs us Q I r h
  obtain ⟨a, ys, b, bs, rfl, hs, hP, k⟩ := h
  obtain rfl := Vals.ref1 r
  obtain ⟨its, rv, hl, hz⟩ := I.list hs
  obtain ⟨as, hr⟩ := Dp.readsAll I _ _ _ (dp_p2s hP) rv
  have hmap : ((b :: bs).map fun b => PySem.W.Datum.toD (toB b)) = ((b :: bs).map toB).map PySem.W.Datum.toD := by rw [List.map_map]; rfl
  have hd := depth_bs (b :: bs)
  have hb : X.A.units + 1 + PyData.depthAll (PySem.W.Datum.toD (toB b) :: bs.map fun b => PySem.W.Datum.toD (toB b)) < cLine := by
    have : X.A.units + 1 + PyData.depthAll ((b :: bs).map fun b => PySem.W.Datum.toD (toB b)) < cLine := by omega
    exact this
  have hal : PySem.W.AlikeAll (PySem.W.Datum.toD (toB b) :: bs.map fun b => PySem.W.Datum.toD (toB b)) := by
    have := PySem.W.alikeAll_datum ((b :: bs).map toB)
    rw [← hmap] at this
    exact this
  refine max_list_place (x := PySem.W.Datum.toD (toB b)) (xs := bs.map fun b => PySem.W.Datum.toD (toB b)) (I.ok.hd hc) hl.isList hr hal hb fun i v h' tk hi e hlt hk => ?_
  have hlt2 : i < (b :: bs).length := by
    have := hlt
    rw [List.length_cons, List.length_map] at this
    exact this
  have hyl := hP.length
  have ec : (b :: bs)[i]? = some (b :: bs)[i] := List.getElem?_eq_getElem hlt2
  have ey : ys[i]? = some (ys[i]'(by omega)) := List.getElem?_eq_getElem (by omega)
  have e2 : PySem.W.Datum.toD (toB (b :: bs)[i]) = PySem.W.Datum.toD (PySem.W.maxOf (toB b) (bs.map toB)) := by
    rw [← PySem.W.maxD_map, List.map_map]
    have e3 : ((b :: bs).map fun b => PySem.W.Datum.toD (toB b)).getD i .none = PySem.W.Datum.toD (toB (b :: bs)[i]) := by
      rw [List.getD_eq_getElem?_getD, List.getElem?_map, ec]
      rfl
    rw [← e3]
    exact e
  have e4 := toD_inj e2
  obtain ⟨m1, m2⟩ := maxOf_top (bs.map toB) (toB b)
  rw [← e4] at m1 m2
  have hi2 : its[i]? = some v := by
    have : its.toArray[i]? = its[i]? := by simp
    rw [← this]
    exact hi
  obtain ⟨y, ey2, ry⟩ := vals_at rv hi2
  refine ⟨y, H, I.kept hk, ry, k i y _ ey2 ec fun d hd => ?_⟩
  rcases List.mem_cons.mp hd with rfl | hd
  · exact m1
  · exact m2 _ (List.mem_map_of_mem (f := toB) hd)
end
section
variable {P : Program} {w : World} {K : PySem.W.Frag} {mg : Str → Option Value} {base : Heap}
def rLenK (K : PySem.W.Frag) : List V → Hp → VK → Prop := fun xs H Q => ∃ p ys, xs = [.ref p] ∧ (SqL K H p ys ∨ SqT K H p ys) ∧ Q (.int ys.length) H
theorem call_lenK {X : Cx} : CallR X (.builtin "len") (rLenK X.K) := call_len_seq
def com (a b : List Int) : List Int := a.take (lcp a b)
def spMiddle (K : PySem.W.Frag) : Sp := fun vs H Q _ => ∃ p u v t ns ms ks, vs = [.int p, u, v, t] ∧ IsP p ∧ Wd K p u ns H ∧ Wd K p v ms H ∧ Wd K p t ks H ∧
  ∀ y m H', m ∈ [com (redI p ns) (redI p ms), com (redI p ns) (redI p ks), com (redI p ms) (redI p ks)] → (∀ d ∈ [com (redI p ns) (redI p ms), com (redI p ns) (redI p ks), com (redI p ms) (redI p ks)], d.length ≤ m.length) → Same H H' → IsTI K y m H' → Q y H'
theorem c_middle (T : TopOk K mg) : Cal P w K mg base 11 "middle" (spMiddle K) [] := by
  refine mkcal T.d_middle sc_middle (fun vs H Q E h => ?_) (fun f cdv A outer s H vs Q E hr h => ?_)
  · obtain ⟨p, u, v, t, ns, ms, ks, rfl, _⟩ := h
    rfl
  · obtain ⟨p, u, v, t, ns, ms, ks, rfl, hp, hu, hv, ht, k⟩ := h
    refine ⟨_, (pss_cons (ps_set (i := 4) sc_middle.nd rfl (Or.inl rfl) (pe_lst (pa_cons (pe_c (c_meeting T) hr (by decide) rfl (pa_cons (pv 0) (pa_cons (pv 1) (pa_cons (pv 2) pa_nil)))) (pa_cons (pe_c (c_meeting T) hr (by decide) rfl (pa_cons (pv 0) (pa_cons (pv 1) (pa_cons (pv 3) pa_nil)))) (pa_cons (pe_c (c_meeting T) hr (by decide) rfl (pa_cons (pv 0) (pa_cons (pv 2) (pa_cons (pv 3) pa_nil)))) pa_nil)))))
      (pss_one (ps_ret (pe_ix ix_tup (pe_callB (cr_maxP rfl hr.units) (by rfl) T.m_max (by decide +kernel) (pa_cons (pe_lc (own := [("word", 5)]) (g := gName 5) (te := tTup (tCons (tCB (rLenK K) (tCons (tVar 5) tNil)) (tCons (tVar 5) tNil))) (tt := tYes) rfl sc_middle.nd (pi_list (pv 4)) (blkOk_by (N := N_middle) (sc := fnScope s_middle) (by decide +kernel)) (fun _ _ _ _ _ => (pg_name (i := 5) sc_middle.nd rfl (Or.inl rfl))) (fun _ _ _ _ _ => pts_nil) (fun _ _ _ _ _ => (pe_tup (pa_cons (pe_callB call_lenK (by rfl) T.m_len (by decide +kernel) (pa_cons (pv 5) pa_nil)) (pa_cons (pv 5) pa_nil))))) pa_nil)) pe_int (fun _ _ => rfl))))), ?_⟩
    rw [show L2.start N_middle [.int p, u, v, t] = [some (.int p), some u, some v, some t, none, none] from rfl]
    refine ⟨_, rfl, _, rfl, _, rfl, p, u, v, ns, ms, rfl, hp, hu, hv, fun y1 H1 s1 hy1 => ?_⟩
    refine ⟨_, rfl, _, rfl, _, rfl, p, u, t, ns, ks, rfl, hp, hu.same s1, ht.same s1, fun y2 H2 s2 hy2 => ?_⟩
    have s12 := s1.trans s2
    refine ⟨_, rfl, _, rfl, _, rfl, p, v, t, ms, ks, rfl, hp, hv.same s12, ht.same s12, fun y3 H3 s3 hy3 => ?_⟩
    refine ⟨by show 3 ≤ sizeLine; decide, fun l nl => ?_⟩
    have sl := same_new (o := .lst [y1, y2, y3]) nl
    have hl : SqL K (upd H3 l (.lst [y1, y2, y3])) l [y1, y2, y3] := SqL.of upd_same
    have h1 := (hy1.same (s2.trans s3)).same sl
    have h2 := (hy2.same s3).same sl
    have h3 := hy3.same sl
    have s4 := (s12.trans s3).trans sl
    change IsTI K y1 (com (redI p ns) (redI p ms)) _ at h1
    change IsTI K y2 (com (redI p ns) (redI p ks)) _ at h2
    change IsTI K y3 (com (redI p ms) (redI p ks)) _ at h3
    generalize upd H3 l (.lst [y1, y2, y3]) = H4 at hl h1 h2 h3 s4 ⊢
    generalize com (redI p ns) (redI p ms) = m1 at h1 k
    generalize com (redI p ns) (redI p ks) = m2 at h2 k
    generalize com (redI p ms) (redI p ks) = m3 at h3 k
    simp only [List.set_cons_succ, List.set_cons_zero]
    refine ⟨_, rfl, l, rfl, ⟨_, hl⟩, fun D nD => lc_rel (xs := [m1, m2, m3]) (β := Int × List Int) walk_list (fun H s => s.seq hl) (fun u n H => IsTI K u n H) (fun u n H H' s h => h.same s) (.cons h1 (.cons h2 (.cons h3 .nil))) (fun y r H => IsP2 K y r H) (fun y r => mono_p2) (fun m => ((m.length : Nat), m)) nD (by show 3 < sizeLine; decide) (fun y m H5 Qk hm s5 hr5 k5 => ?_) (fun H5 ys s5 e5 hP5 => ?_)⟩
    · obtain ⟨a, rfl, ha⟩ := hr5
      refine ⟨_, rfl, a, _, rfl, .inr ha, _, rfl, by show 2 ≤ sizeLine; decide, fun q nq => ?_⟩
      have sq := same_new (o := .tup [.int (((m.map V.int).length : Nat)), .ref a]) nq
      refine k5 _ _ sq ⟨q, .ref a, rfl, SqT.of ?_, IsTI.same sq ⟨a, rfl, ha⟩⟩
      rw [upd_same, List.length_map]
    · refine ⟨D, ys, _, _, rfl, SqL.of e5, hP5, fun i y c ey ec hmax => ?_⟩
      obtain ⟨c', ec', hc⟩ := Paired.get hP5 ey
      rw [show ([m1, m2, m3].map fun m => (((m.length : Nat) : Int), m))[i]? = some c from ec] at ec'
      cases ec'
      obtain ⟨q, z, rfl, hq, hz⟩ := hc
      refine ⟨q, _, 1, z, rfl, rfl, hq, atI_nat (j := 1) rfl, ?_⟩
      have hcm : ∃ m ∈ [m1, m2, m3], (((m.length : Nat) : Int), m) = c := List.mem_map.mp (List.mem_of_getElem? ec)
      obtain ⟨m, hm, rfl⟩ := hcm
      refine k z m H5 hm (fun d hd => ?_) (s4.trans s5) hz
      have := hmax _ (List.mem_map_of_mem (f := fun m : List Int => (((m.length : Nat) : Int), m)) hd)
      have h9 : ((d.length : Nat) : Int) ≤ ((m.length : Nat) : Int) := this
      omega

/-! ### way -/
def wayL (a b : List Int) : List (List Int) := ((List.range (a.length - lcp a b)).map fun j => a.take (a.length - j)) ++ ((List.range (b.length + 1 - lcp a b)).map fun j => b.take (lcp a b + j))
def spWay (K : PySem.W.Frag) : Sp := fun vs H Q _ => ∃ p u v ns ms, vs = [.int p, u, v] ∧ IsP p ∧ Wd K p u ns H ∧ Wd K p v ms H ∧ ∀ y H', Same H H' → IsLT K y (wayL (redI p ns) (redI p ms)) H' → Q y H'
theorem c_way (T : TopOk K mg) : Cal P w K mg base 11 "way" (spWay K) [] := by
  refine mkcal T.d_way sc_way (fun vs H Q E h => ?_) (fun f cdv A outer s H vs Q E hr h => ?_)
  · obtain ⟨p, u, v, ns, ms, rfl, _⟩ := h
    rfl
  · obtain ⟨p, u, v, ns, ms, rfl, hp, hu, hv, k⟩ := h
    refine ⟨_, (pss_cons (ps_set (i := 3) sc_way.nd rfl (Or.inl rfl) (pe_callB call_len_seq (by rfl) T.m_len (by decide +kernel) (pa_cons (pe_c (c_meeting T) hr (by decide) rfl (pa_cons (pv 0) (pa_cons (pv 1) (pa_cons (pv 2) pa_nil)))) pa_nil)))
      (pss_cons (ps_set (i := 4) sc_way.nd rfl (Or.inr rfl) (pe_ix ix_tup (pe_c (c_reduced T) hr (by decide) rfl (pa_cons (pv 0) (pa_cons (pv 1) pa_nil))) pe_int (fun _ _ => rfl)))
      (pss_cons (ps_set (i := 5) sc_way.nd rfl (Or.inr rfl) (pe_ix ix_tup (pe_c (c_reduced T) hr (by decide) rfl (pa_cons (pv 0) (pa_cons (pv 2) pa_nil))) pe_int (fun _ _ => rfl)))
      (pss_cons (ps_setLc (i := 6) (own := [("size", 7)]) (g := gName 7) (te := tSl (rSlA K) (tVar 4) tNoPart (tPart (tVar 7))) (tt := tYes) rfl sc_way.nd rfl rfl (sw_true rfl rfl rfl (by decide +kernel)) (pi_range3 (by rfl) T.m_range (pa_cons (pe_callB call_len_seq (by rfl) T.m_len (by decide +kernel) (pa_cons (pv 4) pa_nil)) (pa_cons (pv 3) (pa_cons (pe_un un_neg pe_int) pa_nil)))) (blkOk_by (N := N_way) (sc := fnScope s_way) (by decide +kernel)) (fun _ _ _ _ _ => (pg_name (i := 7) sc_way.nd rfl (Or.inl rfl))) (fun _ _ _ _ _ => pts_nil) (fun _ _ _ _ _ => (pe_slice sl_tupA (pv 4) po_none (po_some (pv 7)))))
      (pss_one (ps_ret (pe_op op_cat (pv 6) (pe_lc (own := [("size", 7)]) (g := gName 7) (te := tSl (rSlA K) (tVar 5) tNoPart (tPart (tVar 7))) (tt := tYes) rfl sc_way.nd (pi_range2 (by rfl) T.m_range (pa_cons (pv 3) (pa_cons (pe_op op_add (pe_callB call_len_seq (by rfl) T.m_len (by decide +kernel) (pa_cons (pv 5) pa_nil)) pe_int) pa_nil))) (blkOk_by (N := N_way) (sc := fnScope s_way) (by decide +kernel)) (fun _ _ _ _ _ => (pg_name (i := 7) sc_way.nd rfl (Or.inl rfl))) (fun _ _ _ _ _ => pts_nil) (fun _ _ _ _ _ => (pe_slice sl_tupA (pv 5) po_none (po_some (pv 7)))))))))))), ?_⟩
    rw [show L2.start N_way [.int p, u, v] = [some (.int p), some u, some v, none, none, none, none, none] from rfl]
    refine ⟨_, rfl, _, rfl, _, rfl, p, u, v, ns, ms, rfl, hp, hu, hv, fun y H1 s1 hy => ?_⟩
    obtain ⟨a, rfl, ha⟩ := hy
    refine ⟨a, _, rfl, .inr ha, ?_⟩
    simp only [List.set_cons_succ, List.set_cons_zero]
    refine ⟨_, rfl, _, rfl, p, u, ns, rfl, hp, hu.same s1, fun t x yA z H2 s2 ht hA => ?_⟩
    refine ⟨t, _, 1, yA, rfl, rfl, ht, atI_nat (j := 1) rfl, ?_⟩
    simp only [List.set_cons_succ, List.set_cons_zero]
    have s12 := s1.trans s2
    refine ⟨_, rfl, _, rfl, p, v, ms, rfl, hp, hv.same s12, fun t2 x2 yB z2 H3 s3 ht2 hB => ?_⟩
    refine ⟨t2, _, 1, yB, rfl, rfl, ht2, atI_nat (j := 1) rfl, ?_⟩
    simp only [List.set_cons_succ, List.set_cons_zero]
    have s13 := s12.trans s3
    have hA3 := hA.same s3
    obtain ⟨l1, l2⟩ := lcp_le (redI p ns) (redI p ms)
    have r1 := redI_len hp hu.w
    have r2 := redI_len hp hv.w
    have q1 := hu.len
    have q2 := hv.len
    have eS : ((((redI p ns).take (lcp (redI p ns) (redI p ms))).map V.int).length : Nat) = lcp (redI p ns) (redI p ms) := by
      rw [List.length_map, List.length_take, Nat.min_eq_left l1]
    rw [eS]
    have kk : ∀ y H', Same H H' → IsLT K y (((List.range ((redI p ns).length - lcp (redI p ns) (redI p ms))).map fun j => (redI p ns).take ((redI p ns).length - j)) ++ ((List.range ((redI p ms).length + 1 - lcp (redI p ns) (redI p ms))).map fun j => (redI p ms).take (lcp (redI p ns) (redI p ms) + j))) H' → Q y H' := k
    generalize lcp (redI p ns) (redI p ms) = c at l1 l2 kk
    generalize redI p ns = A at hA3 l1 r1 kk
    generalize redI p ms = B at hB l2 r2 kk
    obtain ⟨a3, rfl, ha3⟩ := id hA3
    refine ⟨_, rfl, a3, _, rfl, .inr ha3, _, rfl, 1, rfl, ?_⟩
    have eA : (((A.map V.int).length : Nat) : Int) = (A.length : Int) := by rw [List.length_map]
    have eN : ((((A.map V.int).length : Nat) : Int) - ((c : Nat) : Int)).toNat = A.length - c := by rw [eA]; omega
    refine ⟨_, _, -1, _, rfl, RgC.neg (by rw [eA]; omega) (by rw [eA]; omega) (by omega) (by omega), ?_⟩
    rw [eN, eA]
    refine fun D nD => lc_map walk_rangeC nD (small1000 (by omega)) (fun j y H => IsTI K y (A.take (A.length - j)) H) (fun _ _ => mono_ti) (fun _ _ => trivial) (fun j x H4 H' hj s4 hy => ?_) (fun H4 ys s4 e4 el hR => ?_) gm_name
    · obtain ⟨rfl, rfl⟩ := hy
      refine ⟨?_, fun Qk kq => ?_⟩
      · rfl
      · refine ⟨_, rfl, _, rfl, _, rfl, ?_⟩
        rw [show (A.length : Int) + ((j : Nat) : Int) * (-1) = ((A.length - j : Nat) : Int) by omega]
        exact slT (hA3.same s4) (cutV0 _ _) fun y H5 s5 hy5 => kq y H5 s5 hy5
    · have hP4 : Paired (fun u ns => IsTI K u ns H4) ys ((List.range (A.length - c)).map fun j => A.take (A.length - j)) := by
        refine Paired.of (by rw [el, List.length_map, List.length_range]) fun j y ns ey en => ?_
        rw [List.getElem?_map] at en
        obtain ⟨j', ej, rfl⟩ := Option.map_eq_some_iff.mp en
        obtain ⟨h1, h2⟩ := List.getElem?_eq_some_iff.mp ej
        rw [List.getElem_range] at h2
        subst h2
        exact hR j y ey
      have hB4 := hB.same s4
      obtain ⟨b4, rfl, hb4⟩ := id hB4
      refine ⟨_, rfl, _, rfl, _, rfl, b4, _, rfl, .inr hb4, _, 1, rfl, rfl, ?_⟩
      have eB : (((B.map V.int).length : Nat) : Int) = (B.length : Int) := by rw [List.length_map]
      have eM : ((((B.map V.int).length : Nat) : Int) + 1 - ((c : Nat) : Int)).toNat = B.length + 1 - c := by rw [eB]; omega
      refine ⟨_, _, rfl, ⟨by omega, by omega, by rw [eB]; omega, by rw [eB]; omega⟩, ?_⟩
      rw [eM]
      refine fun D2 nD2 => lc_map walk_range nD2 (small1000 (by omega)) (fun j y H => IsTI K y (B.take (c + j)) H) (fun _ _ => mono_ti) (fun _ _ => trivial) (fun j x H5 H' hj s5 hy => ?_) (fun H5 zs s5 e5 el5 hR5 => ?_) gm_name
      · obtain ⟨rfl, rfl⟩ := hy
        refine ⟨?_, fun Qk kq => ?_⟩
        · rfl
        · refine ⟨_, rfl, _, rfl, _, rfl, ?_⟩
          rw [show (c : Int) + ((j : Nat) : Int) = ((c + j : Nat) : Int) by omega]
          exact slT (hB4.same s5) (cutV0 _ _) fun y H6 s6 hy6 => kq y H6 s6 hy6
      · have hP5 : Paired (fun u ns => IsTI K u ns H5) zs ((List.range (B.length + 1 - c)).map fun j => B.take (c + j)) := by
          refine Paired.of (by rw [el5, List.length_map, List.length_range]) fun j y ns ey en => ?_
          rw [List.getElem?_map] at en
          obtain ⟨j', ej, rfl⟩ := Option.map_eq_some_iff.mp en
          obtain ⟨h1, h2⟩ := List.getElem?_eq_some_iff.mp ej
          rw [List.getElem_range] at h2
          subst h2
          exact hR5 j y ey
        refine ⟨D, D2, ys, zs, rfl, rfl, s5 _ _ e4, e5, Nat.le_of_lt (small1000 (by omega)), fun q nq => ?_⟩
        have sq := same_new (o := .lst (ys ++ zs)) nq
        exact kk _ _ (((s13.trans s4).trans s5).trans sq) ⟨q, ys ++ zs, rfl, SqL.of upd_same, Paired.app (Paired.mapP hP4 fun _ _ z => (z.same s5).same sq) (Paired.mapP hP5 fun _ _ z => z.same sq)⟩
end
end TPW
/-! lists: how far they go together -/
namespace TPW
open TP
theorem lcp_comm : ∀ a b : List Int, lcp a b = lcp b a
  | [], [] => rfl
  | [], _ :: _ => rfl
  | _ :: _, [] => rfl
  | x :: a, y :: b => by
    unfold lcp
    by_cases e : x = y
    · rw [if_pos e, if_pos e.symm, lcp_comm a b]
    · rw [if_neg e, if_neg (fun q => e q.symm)]
theorem lcp_self : ∀ a : List Int, lcp a a = a.length
  | [] => rfl
  | x :: a => by
    unfold lcp
    rw [if_pos rfl, lcp_self a]
    rfl
theorem lcp_take : ∀ (a b : List Int) (m : Nat), m ≤ a.length → lcp (a.take m) b = min m (lcp a b)
  | [], b, m, h => by
    have : m = 0 := by simpa using h
    subst this
    simp [lcp]
  | x :: a, b, 0, h => by simp [lcp]
  | x :: a, [], m + 1, h => by simp [lcp]
  | x :: a, y :: b, m + 1, h => by
    have ih := lcp_take a b m (by simpa using h)
    rw [List.take_succ_cons]
    unfold lcp
    by_cases e : x = y
    · rw [if_pos e, if_pos e, ih]; omega
    · rw [if_neg e, if_neg e]; omega
theorem take_lcp : ∀ a b : List Int, a.take (lcp a b) = b.take (lcp a b)
  | [], b => by simp [lcp]
  | x :: a, [] => by simp [lcp]
  | x :: a, y :: b => by
    unfold lcp
    by_cases e : x = y
    · rw [if_pos e, List.take_succ_cons, List.take_succ_cons, take_lcp a b, e]
    · rw [if_neg e]; rfl
theorem lcp_ultra : ∀ a b c : List Int, min (lcp a c) (lcp c b) ≤ lcp a b
  | [], b, c => by simp [lcp]
  | x :: a, [], c => by
    have : lcp c [] = 0 := by cases c <;> rfl
    rw [this]; omega
  | x :: a, y :: b, [] => by simp [lcp]
  | x :: a, y :: b, z :: c => by
    have ih := lcp_ultra a b c
    unfold lcp
    by_cases e1 : x = z
    · by_cases e2 : z = y
      · rw [if_pos e1, if_pos e2, if_pos (e1.trans e2)]; omega
      · rw [if_neg e2]; omega
    · rw [if_neg e1]; omega
theorem pre_of {a c : List Int} (h : lcp a c = c.length) : c = a.take c.length := by
  have e := take_lcp a c
  rw [h, List.take_length] at e
  exact e.symm
theorem dist_zero (a b : List Int) : distI a b = 0 ↔ a = b := by
  constructor
  · intro h
    obtain ⟨h1, h2⟩ := lcp_le a b
    unfold distI at h
    have e1 : lcp a b = a.length := by omega
    have e2 : lcp a b = b.length := by omega
    have e3 := take_lcp a b
    rw [e1, List.take_length, show a.length = b.length by omega, List.take_length] at e3
    exact e3
  · rintro rfl
    unfold distI
    rw [lcp_self]
    omega
theorem dist_comm (a b : List Int) : distI a b = distI b a := by
  unfold distI
  rw [lcp_comm]
  omega
/-- c is between a and b -/
def Betw (a b c : List Int) : Prop := lcp a c + lcp c b = c.length + lcp a b
theorem dist_tri (a b c : List Int) : distI a b ≤ distI a c + distI c b := by
  have h := lcp_ultra a b c
  obtain ⟨h1, h2⟩ := lcp_le a c
  obtain ⟨h3, h4⟩ := lcp_le c b
  unfold distI
  omega
theorem dist_betw (a b c : List Int) : distI a b = distI a c + distI c b ↔ Betw a b c := by
  unfold distI Betw
  omega
theorem way_mem (a b c : List Int) : c ∈ wayL a b ↔ Betw a b c := by
  obtain ⟨l1, l2⟩ := lcp_le a b
  unfold wayL Betw
  rw [List.mem_append]
  constructor
  · rintro (h | h)
    · obtain ⟨j, hj, rfl⟩ := List.mem_map.mp h
      have hj := List.mem_range.mp hj
      rw [lcp_comm a, lcp_take a a _ (by omega), lcp_take a b _ (by omega), lcp_self, List.length_take]
      omega
    · obtain ⟨j, hj, rfl⟩ := List.mem_map.mp h
      have hj := List.mem_range.mp hj
      rw [lcp_comm a, lcp_take b a _ (by omega), lcp_take b b _ (by omega), lcp_self, List.length_take, lcp_comm b a]
      omega
  · intro h
    have hu := lcp_ultra a b c
    obtain ⟨h1, h2⟩ := lcp_le a c
    obtain ⟨h3, h4⟩ := lcp_le c b
    by_cases e : lcp c b = c.length
    · right
      rw [lcp_comm] at e
      refine List.mem_map.mpr ⟨c.length - lcp a b, List.mem_range.mpr ?_, ?_⟩
      · have := (lcp_le b c).1
        omega
      · have e2 := pre_of e
        rw [lcp_comm b c] at e
        rw [show lcp a b + (c.length - lcp a b) = c.length by omega]
        exact e2.symm
    · left
      have e1 : lcp a c = c.length := by omega
      have e2 := pre_of e1
      refine List.mem_map.mpr ⟨a.length - c.length, List.mem_range.mpr (by omega), ?_⟩
      rw [show a.length - (a.length - c.length) = c.length by omega]
      exact e2.symm
theorem Betw.symm {a b c : List Int} (h : Betw a b c) : Betw b a c := by
  unfold Betw at *
  rw [lcp_comm b c, lcp_comm c a, lcp_comm b a]
  omega
theorem mid_betw (x y z : List Int) (h1 : lcp x z ≤ lcp x y) (h2 : lcp y z ≤ lcp x y) : Betw x y (com x y) ∧ Betw y z (com x y) ∧ Betw x z (com x y) := by
  obtain ⟨l1, l2⟩ := lcp_le x y
  have u1 := lcp_ultra x z y
  have u2 := lcp_ultra y z x
  rw [lcp_comm y x] at u2
  have e1 : lcp (com x y) x = lcp x y := by
    unfold com
    rw [lcp_take x x _ l1, lcp_self]; omega
  have e2 : lcp (com x y) y = lcp x y := by
    unfold com
    rw [lcp_take x y _ l1]; omega
  have e3 : lcp (com x y) z = lcp x z := by
    unfold com
    rw [lcp_take x z _ l1]; omega
  have e4 : (com x y).length = lcp x y := by
    unfold com
    rw [List.length_take]; omega
  unfold Betw
  rw [lcp_comm x (com x y), lcp_comm y (com x y), e1, e2, e3, e4]
  omega
theorem com_len (x y : List Int) : (com x y).length = lcp x y := by
  unfold com
  rw [List.length_take]
  have := (lcp_le x y).1
  omega
theorem mid_ok {a b c m : List Int} (hm : m ∈ [com a b, com a c, com b c]) (hx : ∀ d ∈ [com a b, com a c, com b c], d.length ≤ m.length) : m ∈ wayL a b ∧ m ∈ wayL b c ∧ m ∈ wayL c a := by
  rw [way_mem, way_mem, way_mem]
  have k1 := hx (com a b) (by simp)
  have k2 := hx (com a c) (by simp)
  have k3 := hx (com b c) (by simp)
  rw [com_len] at k1 k2 k3
  simp only [List.mem_cons, List.not_mem_nil, or_false] at hm
  rcases hm with rfl | rfl | rfl <;> rw [com_len] at k1 k2 k3
  · obtain ⟨h1, h2, h3⟩ := mid_betw a b c (by omega) (by omega)
    exact ⟨h1, h2, h3.symm⟩
  · obtain ⟨h1, h2, h3⟩ := mid_betw a c b (by omega) (by rw [lcp_comm c b]; omega)
    exact ⟨h3, h2.symm, h1.symm⟩
  · obtain ⟨h1, h2, h3⟩ := mid_betw b c a (by rw [lcp_comm b a]; omega) (by rw [lcp_comm c a]; omega)
    exact ⟨h3.symm, h1, h2⟩
theorem way_len (a b : List Int) : ((wayL a b).length : Int) = distI a b + 1 := by
  obtain ⟨l1, l2⟩ := lcp_le a b
  unfold wayL distI
  rw [List.length_append, List.length_map, List.length_map, List.length_range, List.length_range]
  omega
end TPW
namespace TP
open TPW (ql IsP prodQ letM IsCanon Gcd contM gcdQ divQ prodQ_isN ixM ixs lcp ixM_inj distI)
/-! the norm of what lies between two places -/
theorem red_rev {p : Int} : ∀ xs : List Hq, (∀ x ∈ xs, IsN x) → Red p xs → Red p (xs.reverse.map cj)
  | [], _, _ => trivial
  | [a], _, _ => trivial
  | a :: b :: r, hN, h => by
    have ih := red_rev (b :: r) (fun x hx => hN x (List.mem_cons_of_mem _ hx)) h.2
    rw [List.reverse_cons, List.map_append] at ih ⊢
    rw [List.reverse_cons, List.map_append]
    refine red_snoc (r.reverse.map cj) (cj b) (cj a) ih fun d => h.1 ?_
    rw [← cj_mul (hN a (by simp)) (hN b (by simp))] at d
    exact d.of_cj
theorem red_join {p : Int} : ∀ (A B : List Hq) (k l : Hq), Red p (A ++ [k]) → Red p (l :: B) → ¬ Dv p (mul k l) → Red p (A ++ [k] ++ l :: B)
  | [], B, k, l, _, h2, h => ⟨h, h2⟩
  | [a], B, k, l, h1, h2, h => ⟨h1.1, h, h2⟩
  | a :: b :: A, B, k, l, h1, h2, h => ⟨h1.1, red_join (b :: A) B k l h1.2 h2 h⟩
theorem prod_rev : ∀ xs : List Hq, (∀ x ∈ xs, IsN x) → prodQ (xs.reverse.map cj) = cj (prodQ xs)
  | [], _ => by decide +kernel
  | a :: r, hN => by
    have ih := prod_rev r (fun x hx => hN x (List.mem_cons_of_mem _ hx))
    have ha := hN a (List.mem_cons_self ..)
    have hr : ∀ c ∈ r, IsN c := fun c hc => hN c (List.mem_cons_of_mem _ hc)
    rw [List.reverse_cons, List.map_append, List.map_singleton, prod_snoc, ih, prod_cons ha hr, cj_mul ha (prodQ_isN hr)]
theorem split_lcp {p : Int} (hp : IsP p) : ∀ xs ys : List Hq, (∀ x ∈ xs, x ∈ LsV p) → (∀ y ∈ ys, y ∈ LsV p) → ∃ C x' y', xs = C ++ x' ∧ ys = C ++ y' ∧ C.length = lcp (ixs p xs) (ixs p ys) ∧ ∀ l r k q, x' = l :: r → y' = k :: q → l ≠ k
  | [], ys, _, _ => ⟨[], [], ys, rfl, rfl, rfl, fun l r k q h => by cases h⟩
  | x :: xs, [], _, _ => ⟨[], x :: xs, [], rfl, rfl, rfl, fun l r k q _ h => by cases h⟩
  | x :: xs, y :: ys, h1, h2 => by
    have hx := h1 x (List.mem_cons_self ..)
    have hy := h2 y (List.mem_cons_self ..)
    by_cases e : x = y
    · subst e
      obtain ⟨C, x', y', e1, e2, e3, e4⟩ := split_lcp hp xs ys (fun z hz => h1 z (List.mem_cons_of_mem _ hz)) (fun z hz => h2 z (List.mem_cons_of_mem _ hz))
      refine ⟨x :: C, x', y', by rw [e1]; rfl, by rw [e2]; rfl, ?_, e4⟩
      show C.length + 1 = lcp (ixM p x :: ixs p xs) (ixM p x :: ixs p ys)
      unfold lcp
      rw [if_pos rfl, e3]
    · refine ⟨[], x :: xs, y :: ys, rfl, rfl, ?_, fun l r k q h h' => ?_⟩
      · show 0 = lcp (ixM p x :: ixs p xs) (ixM p y :: ixs p ys)
        unfold lcp
        rw [if_neg (fun q => e (ixM_inj hx hy q))]
      · cases h
        cases h'
        exact e
theorem between {p : Int} (hp : IsP p) {Na Nb u v : Hq} {n m s t : Nat} {xs ys : List Hq} (Da : Dec p Na n s xs u) (Db : Dec p Nb m t ys v) :
    ∃ (E d : Nat) (w : Hq), mul (cj Na) Nb = scl (p ^ E) w ∧ IsN w ∧ ¬ Dv p w ∧ nrm w = p ^ d ∧ (d : Int) = distI (ixs p xs) (ixs p ys) ∧ E ≤ n + m ∧ d ≤ n + m := by
  obtain ⟨C, x', y', ex, ey, ec, hne⟩ := split_lcp hp xs ys Da.mem Db.mem
  have hC : ∀ c ∈ C, c ∈ LsV p := fun c hc => Da.mem c (by rw [ex]; exact List.mem_append_left _ hc)
  have hx' : ∀ c ∈ x', c ∈ LsV p := fun c hc => Da.mem c (by rw [ex]; exact List.mem_append_right _ hc)
  have hy' : ∀ c ∈ y', c ∈ LsV p := fun c hc => Db.mem c (by rw [ey]; exact List.mem_append_right _ hc)
  have nN : ∀ L : List Hq, (∀ c ∈ L, c ∈ LsV p) → ∀ c ∈ L, IsN c := fun L h c hc => (LsV_ok hp c (h c hc)).1
  obtain ⟨C1, C2⟩ := prod_nrm hp hC
  obtain ⟨X1, X2⟩ := prod_nrm hp hx'
  obtain ⟨Y1, Y2⟩ := prod_nrm hp hy'
  have huN := unit_isN Da.unit
  have hvN := unit_isN Db.unit
  have cX := cj_isN X1
  have cU := cj_isN huN
  have hW := mul_isN cX Y1
  have hRx : Red p x' := by
    have h := Da.red
    rw [ex] at h
    exact TPW.red_right C x' h
  have hRy : Red p y' := by
    have h := Db.red
    rw [ey] at h
    exact TPW.red_right C y' h
  -- the middle piece
  have hmid : ¬ Dv p (mul (cj (prodQ x')) (prodQ y')) := by
    have hrN : ∀ c ∈ x'.reverse.map cj, Let p c := fun c hc => by
      obtain ⟨z, hz, rfl⟩ := List.mem_map.mp hc
      exact cj_let (Let.of hp (hx' z (List.mem_reverse.mp hz)))
    have hyN : ∀ c ∈ y', Let p c := fun c hc => Let.of hp (hy' c hc)
    have hRR := red_rev x' (nN x' hx') hRx
    have e : mul (cj (prodQ x')) (prodQ y') = prodQ (x'.reverse.map cj ++ y') := by
      rw [prod_app (fun c hc => (hrN c hc).1) (fun c hc => (hyN c hc).1), prod_rev x' (nN x' hx')]
    rw [e]
    refine red_prim hp _ (fun c hc => (List.mem_append.mp hc).elim (hrN c) (hyN c)) ?_
    cases x' with
    | nil => exact hRy
    | cons l r =>
      cases y' with
      | nil => rw [List.append_nil]; exact hRR
      | cons k q =>
        rw [List.reverse_cons, List.map_append] at hRR ⊢
        refine red_join _ _ _ _ hRR hRy fun d => hne l r k q rfl rfl ?_
        exact LsV_two hp l (hx' l (List.mem_cons_self ..)) k (hy' k (List.mem_cons_self ..)) d
  refine ⟨s + t + C.length, x'.length + y'.length, mul (cj u) (mul (mul (cj (prodQ x')) (prodQ y')) v), ?_, mul_isN cU (mul_isN hW hvN), ?_, ?_, ?_, ?_, ?_⟩
  · have eX : prodQ xs = mul (prodQ C) (prodQ x') := by rw [ex, prod_app (nN C hC) (nN x' hx')]
    have eY : prodQ ys = mul (prodQ C) (prodQ y') := by rw [ey, prod_app (nN C hC) (nN y' hy')]
    have hA := mul_isN (mul_isN C1 X1) huN
    have hB := mul_isN (mul_isN C1 Y1) hvN
    rw [Da.eq, Db.eq, cj_scl, eX, eY, scl_mul (cj_isN hA) (scl_isN _ hB), mul_scl (cj_isN hA) hB, scl_scl, ← Int.pow_add]
    have e1 : mul (cj (mul (mul (prodQ C) (prodQ x')) u)) (mul (mul (prodQ C) (prodQ y')) v) = scl (p ^ C.length) (mul (cj u) (mul (mul (cj (prodQ x')) (prodQ y')) v)) := by
      have hCY := mul_isN C1 Y1
      have cC := cj_isN C1
      have e2 : mul (mul (cj (prodQ x')) (cj (prodQ C))) (mul (prodQ C) (prodQ y')) = scl (p ^ C.length) (mul (cj (prodQ x')) (prodQ y')) := by
        rw [mul_assoc' cX cC hCY, ← mul_assoc' cC C1 Y1, cj_mul_self C1, C2, scl_one_mul Y1, mul_scl cX Y1]
      rw [cj_mul (mul_isN C1 X1) huN, cj_mul C1 X1, mul_assoc' cU (mul_isN cX cC) (mul_isN hCY hvN), ← mul_assoc' (mul_isN cX cC) hCY hvN, e2, scl_mul hW hvN, mul_scl cU (mul_isN hW hvN)]
    rw [e1, scl_scl, ← Int.pow_add]
  · intro d
    apply hmid
    have d2 := Dv.mull hp huN (mul_isN cU (mul_isN hW hvN)) d
    rw [← mul_assoc' huN cU (mul_isN hW hvN), unit_inv Da.unit, one_mul'] at d2
    have d3 := Dv.mulr hp (mul_isN hW hvN) (cj_isN hvN) d2
    rwa [mul_assoc' hW hvN (cj_isN hvN), unit_inv Db.unit, mul_one'] at d3
  · rw [nrm_mul cU (mul_isN hW hvN), nrm_mul hW hvN, nrm_mul cX Y1, nrm_cj, nrm_cj, X2, Y2, unit_nrm u Da.unit, unit_nrm v Db.unit, Int.one_mul, Int.mul_one, ← Int.pow_add]
  · unfold distI
    rw [← ec]
    unfold ixs
    rw [List.length_map, List.length_map, ex, ey, List.length_append, List.length_append]
    omega
  · have h1 := Da.len
    have h2 := Db.len
    rw [ex, List.length_append] at h1
    omega
  · have h1 := Da.len
    have h2 := Db.len
    rw [ex, List.length_append] at h1
    rw [ey, List.length_append] at h2
    omega
end TP
namespace TPW
open PySem PySem.Spec PyProof.Rows L2 TP
open RZ (ItzT pi_zipA iZipA)
open C8 (Cal Def cal0 pe_c fnScope fnBody fnArgs fnScope_by pe_gc)
section
variable {P : Program} {w : World} {K : PySem.W.Frag} {mg : Str → Option Value} {base : Heap}
def Sml (ns : List Int) : Prop := ∀ n ∈ ns, 0 ≤ n ∧ n < 1009
theorem Sml.snoc {ns : List Int} {n : Int} (h : Sml ns) (h0 : 0 ≤ n) (h1 : n < 1009) : Sml (ns ++ [n]) := fun m hm => by
  rcases List.mem_append.mp hm with hm | hm
  · exact h m hm
  · rw [List.mem_singleton.mp hm]; exact ⟨h0, h1⟩
theorem mod_sml (x : Int) : 0 ≤ x % 1009 ∧ x % 1009 < 1009 := ⟨Int.emod_nonneg _ (by decide), Int.emod_lt_of_pos _ (by decide)⟩
def spRow (K : PySem.W.Frag) : Sp := fun vs H Q _ => ∃ (c : Int) (m : Nat), vs = [.int c, .int (m : Nat)] ∧ m ≤ 100 ∧ ∀ a ns H', Same H H' → H a = none → H' a = some (.lst (ns.map V.int)) → ns.length = m → Sml ns → Q (.ref a) H'
theorem c_law_row (T : TopOk K mg) : Cal P w K mg base 1 "_law_row" (spRow K) [] := by
  refine mkcal T.d_law_row sc_law_row (fun vs H Q E h => ?_) (fun f cdv A outer s H vs Q E hr h => ?_)
  · obtain ⟨c, m, rfl, _⟩ := h
    rfl
  · obtain ⟨c, m, rfl, hm, k⟩ := h
    refine ⟨_, (pss_cons (ps_set (i := 2) sc_law_row.nd rfl (Or.inl rfl) (pe_lst pa_nil))
      (pss_cons (ps_set (i := 3) sc_law_row.nd rfl (Or.inl rfl) (pe_callB call_abs (by rfl) T.m_abs (by decide +kernel) (pa_cons (pv 0) pa_nil)))
      (pss_cons (ps_set (i := 4) sc_law_row.nd rfl (Or.inl rfl) (pe_op op_mod (pe_callTy call_int1 (by rfl) T.m_int (by decide +kernel) (pa_cons (pe_op op_add (pe_op op_mul (pv 3) pe_int) pe_int) pa_nil)) pe_int))
      (pss_cons (ps_for PassesOwn.never rfl (pi_range1 (by rfl) T.m_range (pa_cons (pv 1) pa_nil)) (pg_name (i := 5) sc_law_row.nd rfl (Or.inl rfl)) (pss_cons (ps_set (i := 4) sc_law_row.nd rfl (Or.inl rfl) (pe_op op_mod (pe_callTy call_int1 (by rfl) T.m_int (by decide +kernel) (pa_cons (pe_op op_add (pe_op op_mul (pv 4) pe_int) (pe_op op_mul pe_int (pe_op op_add (pv 5) pe_int))) pa_nil)) pe_int))
      (pss_one (ps_if (pt_cmpR op_ge (pe_callB call_abs (by rfl) T.m_abs (by decide +kernel) (pa_cons (pv 0) pa_nil)) (pe_op op_pow pe_int pe_int) (nomark _)) (pss_cons (ps_expr (pe_bm PySem.F.plainAttrs_list PySem.F.slot_list_append PySem.F.type_list_append mt_append (pv 2) (pa_cons (pe_op op_mod (pe_callTy call_int1 (by rfl) T.m_int (by decide +kernel) (pa_cons (pv 3) pa_nil)) pe_int) pa_nil)))
      (pss_one (ps_set (i := 3) sc_law_row.nd rfl (Or.inl rfl) (pe_op op_fdiv (pv 3) pe_int)))) (pss_one (ps_expr (pe_bm PySem.F.plainAttrs_list PySem.F.slot_list_append PySem.F.type_list_append mt_append (pv 2) (pa_cons (pe_op op_mod (pe_callTy call_int1 (by rfl) T.m_int (by decide +kernel) (pa_cons (pe_op op_fdiv (pv 4) pe_int) pa_nil)) pe_int) pa_nil))))))))
      (pss_one (ps_ret (pv 2))))))), ?_⟩
    rw [show L2.start N_law_row [.int c, .int (m : Nat)] = [some (.int c), some (.int (m : Nat)), none, none, none, none] from rfl]
    refine ⟨by show 0 ≤ sizeLine; decide, fun D nD => ?_⟩
    refine ⟨_, rfl, c, rfl, ?_⟩
    refine ⟨_, rfl, _, 48271, rfl, rfl, .inr ⟨by decide, by decide⟩, _, _, rfl, rfl, .inl ⟨_, rfl, _, 2147483647, rfl, rfl, by show (0 : Int) < 2147483647; decide, ?_⟩⟩
    simp only [List.set_cons_succ, List.set_cons_zero]
    refine ⟨_, rfl, _, rfl, by omega, by omega, for_range (n := ((m : Nat) : Int).toNat) (fun i σ H' => ∃ (r x : Int) (y : Option V), σ = [some (.int c), some (.int (m : Nat)), some (.ref D), some (.int r), some (.int x), y] ∧ Same H H' ∧ ∃ ns, H' D = some (.lst (ns.map V.int)) ∧ ns.length = i ∧ Sml ns) ⟨_, _, _, rfl, same_new nD, [], upd_same, rfl, fun n h => by cases h⟩ (fun i σ H2 hi h2 => ?_) (fun σ H2 h2 => ?_)⟩
    · obtain ⟨r, x, y, rfl, s2, ns, e2, hl, hs⟩ := h2
      have hi2 : i < m := by omega
      simp only [List.set_cons_succ, List.set_cons_zero]
      refine ⟨_, rfl, _, 16807, rfl, rfl, .inr ⟨by decide, by decide⟩, _, rfl, _, 3, rfl, rfl, 271, _, rfl, rfl, .inl ⟨by decide, by decide⟩, _, _, rfl, rfl, .inl ⟨_, rfl, _, 2147483629, rfl, rfl, by show (0 : Int) < 2147483629; decide, ?_⟩⟩
      simp only [List.set_cons_succ, List.set_cons_zero]
      refine ⟨_, rfl, c, rfl, 10, 18, rfl, rfl, ⟨by decide, by decide, by decide⟩, _, _, rfl, rfl, _, rfl, ?_⟩
      have hz : (ns.map V.int).length < sizeLine := by rw [List.length_map]; exact small1000 (by omega)
      by_cases A : (10 : Int) ^ (18 : Int).toNat ≤ (if c < 0 then -c else c)
      · rw [decide_eq_true A]
        refine iteT ⟨_, rfl, .inl ⟨rfl, _, SqL.of e2⟩, _, rfl, .inl ⟨_, rfl, _, 1009, rfl, rfl, by show (0 : Int) < 1009; decide, D, _, _, rfl, rfl, e2, hz, ?_⟩⟩
        refine ⟨_, rfl, _, 1009, rfl, rfl, ⟨by decide, by decide⟩, _, _, _, rfl, same_upd s2 nD, ns ++ [r % 1009], ?_, by rw [List.length_append]; simp; omega, hs.snoc (mod_sml _).1 (mod_sml _).2⟩
        rw [upd_same, List.map_append]
        rfl
      · rw [decide_eq_false A]
        refine iteF ⟨_, rfl, .inl ⟨rfl, _, SqL.of e2⟩, _, rfl, _, 7, rfl, rfl, ⟨by decide, by decide⟩, .inl ⟨_, rfl, _, 1009, rfl, rfl, by show (0 : Int) < 1009; decide, D, _, _, rfl, rfl, e2, hz, ?_⟩⟩
        refine ⟨_, _, _, rfl, same_upd s2 nD, ns ++ [(x * 16807 + 271 * (0 + (i : Int) + 3)) % 2147483629 / 7 % 1009], ?_, by rw [List.length_append]; simp; omega, hs.snoc (mod_sml _).1 (mod_sml _).2⟩
        rw [upd_same, List.map_append]
        rfl
    · obtain ⟨r, x, y, rfl, s2, ns, e2, hl, hs⟩ := h2
      exact ⟨_, rfl, k D ns H2 s2 nD e2 (by omega) hs⟩

theorem each_ok (N : Nat) (h : N ≤ 63) {L : Nat} (e : ((L : Nat) : Int) = ((N : Nat) : Int)) : ∃ E1 : Nat, 1 + 50 / (if ((L : Nat) : Int) > 1 then ((L : Nat) : Int) else 1) = ((E1 : Nat) : Int) ∧ E1 ≤ 51 ∧ N * E1 ≤ 113 := by
  have t : ∀ N : Nat, N < 64 → 1 + 50 / (if ((N : Nat) : Int) > 1 then ((N : Nat) : Int) else 1) = ((1 + 50 / max 1 N : Nat) : Int) ∧ 1 + 50 / max 1 N ≤ 51 ∧ N * (1 + 50 / max 1 N) ≤ 113 := by decide +kernel
  rw [e]
  exact ⟨_, t N (by omega)⟩
def spNums (K : PySem.W.Frag) : Sp := fun vs H Q _ => ∃ (a : Addr) (cs : List Int), vs = [.ref a, .int 50] ∧ SqL K H a (cs.map V.int) ∧ cs.length ≤ 63 ∧ ∀ (b : Addr) (ns : List Int) H', Same H H' → SqL K H' b (ns.map V.int) → ns.length = 50 → Sml ns → Q (.ref b) H'
theorem c_law_numbers (T : TopOk K mg) : Cal P w K mg base 2 "_law_numbers" (spNums K) [] := by
  refine mkcal T.d_law_numbers sc_law_numbers (fun vs H Q E h => ?_) (fun f cdv A outer s H vs Q E hr h => ?_)
  · obtain ⟨a, cs, rfl, _⟩ := h
    rfl
  · obtain ⟨a, cs, rfl, ha, hc, k⟩ := h
    refine ⟨_, (pss_cons (ps_set (i := 2) sc_law_numbers.nd rfl (Or.inl rfl) (pe_slice sl_list (pv 0) po_none (po_some pe_int)))
      (pss_cons (ps_set (i := 3) sc_law_numbers.nd rfl (Or.inl rfl) (pe_op op_add pe_int (pe_op op_fdiv (pv 1) (pe_callB (call_max2 rfl) (by rfl) T.m_max (by decide +kernel) (pa_cons pe_int (pa_cons (pe_callB call_len_seq (by rfl) T.m_len (by decide +kernel) (pa_cons (pv 2) pa_nil)) pa_nil))))))
      (pss_cons (ps_set (i := 4) sc_law_numbers.nd rfl (Or.inl rfl) (pe_lst pa_nil))
      (pss_cons (ps_for PassesOwn.never rfl (pi_list (pv 2)) (pg_name (i := 5) sc_law_numbers.nd rfl (Or.inl rfl)) (pss_one (ps_for PassesOwn.never rfl (pi_list (pe_c (c_law_row T) hr (by decide) rfl (pa_cons (pv 5) (pa_cons (pv 3) pa_nil)))) (pg_name (i := 6) sc_law_numbers.nd rfl (Or.inl rfl)) (pss_one (ps_expr (pe_bm PySem.F.plainAttrs_list PySem.F.slot_list_append PySem.F.type_list_append mt_append (pv 4) (pa_cons (pv 6) pa_nil)))))))
      (pss_cons (ps_while PassesOwn.never (pt_cmpR op_lt (pe_callB call_len_seq (by rfl) T.m_len (by decide +kernel) (pa_cons (pv 4) pa_nil)) (pv 1) (nomark _)) (pss_one (ps_expr (pe_bm PySem.F.plainAttrs_list PySem.F.slot_list_append PySem.F.type_list_append mt_append (pv 4) (pa_cons pe_int pa_nil)))))
      (pss_one (ps_ret (pe_slice sl_list (pv 4) po_none (po_some (pv 1)))))))))), ?_⟩
    rw [show L2.start N_law_numbers [.ref a, .int 50] = [some (.ref a), some (.int 50), none, none, none, none, none] from rfl]
    refine ⟨_, rfl, 63, rfl, a, _, rfl, ha, fun b nb => ?_⟩
    have ecut : cutV (cs.map V.int) none (some 63) = cs.map V.int := by
      rw [show (63 : Int) = ((63 : Nat) : Int) from rfl, cutV0, List.take_of_length_le hc]
    rw [ecut]
    have sb := same_new (o := .lst (cs.map V.int)) nb
    have eb : upd H b (.lst (cs.map V.int)) b = some (.lst (cs.map V.int)) := upd_same
    generalize upd H b (.lst (cs.map V.int)) = H1 at sb eb ⊢
    simp only [List.set_cons_succ, List.set_cons_zero]
    refine ⟨_, rfl, _, rfl, b, _, rfl, .inl (SqL.of eb), 1, _, rfl, ?_⟩
    have eN : (((cs.map V.int).length : Nat) : Int) = ((cs.length : Nat) : Int) := by rw [List.length_map]
    obtain ⟨E1, hE1, hE2, hE3⟩ : ∃ E1 : Nat, 1 + 50 / (if (((cs.map V.int).length : Nat) : Int) > 1 then (((cs.map V.int).length : Nat) : Int) else 1) = ((E1 : Nat) : Int) ∧ E1 ≤ 51 ∧ cs.length * E1 ≤ 113 := each_ok cs.length hc eN
    have hpos : (0 : Int) < (if (((cs.map V.int).length : Nat) : Int) > 1 then (((cs.map V.int).length : Nat) : Int) else 1) ∧ (if (((cs.map V.int).length : Nat) : Int) > 1 then (((cs.map V.int).length : Nat) : Int) else 1) < 1073741824 := by
      rw [eN]
      split <;> omega
    refine ⟨_, _, rfl, rfl, hpos, 1, _, rfl, rfl, ?_⟩
    simp only [List.set_cons_succ, List.set_cons_zero, hE1]
    refine ⟨by show 0 ≤ sizeLine; decide, fun D nD => ?_⟩
    simp only [List.set_cons_succ, List.set_cons_zero]
    have sD := same_new (o := .lst []) nD
    have nDb : b ≠ D := fun e => by rw [e, nD] at eb; cases eb
    refine ⟨_, rfl, b, rfl, ⟨_, SqL.of (sD _ _ eb)⟩, for_list (xs := cs.map V.int) (fun i σ H' => ∃ x y, σ = [some (.ref a), some (.int 50), some (.ref b), some (.int (E1 : Nat)), some (.ref D), x, y] ∧ Same H1 H' ∧ ∃ ns, H' D = some (.lst (ns.map V.int)) ∧ ns.length = i * E1 ∧ Sml ns) ⟨_, _, rfl, sD, [], upd_same, by simp, fun n h => by cases h⟩ (fun i σ H' hi h' => ?_) (fun i x σ H' ex h' => ?_) (fun σ H' h' => ?_)⟩
    · obtain ⟨_, _, _, s2, _⟩ := h'
      exact SqL.of (s2 _ _ eb)
    · obtain ⟨x0, y0, rfl, s2, ns, e2, hl, hs⟩ := h'
      rw [List.getElem?_map] at ex
      obtain ⟨c, ec, rfl⟩ := Option.map_eq_some_iff.mp ex
      have hi : i < cs.length := (List.getElem?_eq_some_iff.mp ec).1
      simp only [List.set_cons_succ, List.set_cons_zero]
      refine ⟨_, rfl, _, rfl, c, E1, rfl, by omega, fun r ms H5 s5 nr er hml hms => ?_⟩
      have e5 := s5 _ _ e2
      have s15 := s2.trans s5
      have hrD : r ≠ D := fun e => by rw [e, e2] at nr; cases nr
      have sB : Same (less1 H5 D) H5 := less1_same
      have s1B : Same H1 (less1 H5 D) := same_less1 s15 nD
      have nB : less1 H5 D D = none := less1_none
      have erB : less1 H5 D r = some (.lst (ms.map V.int)) := less1_of hrD er
      generalize less1 H5 D = B at sB s1B nB erB
      have him : (i + 1) * E1 ≤ 113 := Nat.le_trans (Nat.mul_le_mul_right _ hi) hE3
      have eim : (i + 1) * E1 = i * E1 + E1 := Nat.succ_mul i E1
      refine ⟨r, rfl, ⟨_, SqL.of er⟩, for_list (xs := ms.map V.int) (fun j σ H' => ∃ y, σ = [some (.ref a), some (.int 50), some (.ref b), some (.int (E1 : Nat)), some (.ref D), some (.int c), y] ∧ Same B H' ∧ ∃ ns, H' D = some (.lst (ns.map V.int)) ∧ ns.length = i * E1 + j ∧ Sml ns) ⟨_, rfl, sB, ns, e5, hl, hs⟩ (fun j σ H' hj h' => ?_) (fun j x σ H' ex h' => ?_) (fun σ H' h' => ?_)⟩
      · obtain ⟨_, _, s6, _⟩ := h'
        exact SqL.of (s6 _ _ erB)
      · obtain ⟨y1, rfl, s6, ns2, e6, hl6, hs6⟩ := h'
        rw [List.getElem?_map] at ex
        obtain ⟨n, en, rfl⟩ := Option.map_eq_some_iff.mp ex
        have hj : j < ms.length := (List.getElem?_eq_some_iff.mp en).1
        refine ⟨_, rfl, .inl ⟨rfl, _, SqL.of e6⟩, _, rfl, D, _, _, rfl, rfl, e6, by rw [List.length_map]; exact small1000 (by omega), ?_⟩
        refine ⟨_, rfl, same_upd s6 nB, ns2 ++ [n], ?_, by rw [List.length_append, List.length_singleton]; omega, hs6.snoc (hms n (List.mem_of_getElem? en)).1 (hms n (List.mem_of_getElem? en)).2⟩
        rw [upd_same, List.map_append]
        rfl
      · obtain ⟨y1, rfl, s6, ns2, e6, hl6, hs6⟩ := h'
        rw [List.length_map] at hl6
        exact ⟨_, _, rfl, s1B.trans s6, ns2, e6, by rw [eim]; omega, hs6⟩
    · obtain ⟨x0, y0, rfl, s2, ns, e2, hl, hs⟩ := h'
      rw [List.length_map] at hl
      have hl2 : ns.length ≤ 113 := by rw [hl]; exact hE3
      refine ⟨fun m σ H' => ∃ x y ns, σ = [some (.ref a), some (.int 50), some (.ref b), some (.int (E1 : Nat)), some (.ref D), x, y] ∧ Same H1 H' ∧ H' D = some (.lst (ns.map V.int)) ∧ m = 50 - ns.length ∧ ns.length ≤ 113 ∧ Sml ns, ⟨_, _, _, ns, rfl, s2, e2, rfl, hl2, hs⟩, ?_⟩
      rintro m σ H3 ⟨x, y, ns, rfl, s3, e3, rfl, hl3, hs3⟩
      refine ⟨_, rfl, D, _, rfl, .inl (SqL.of e3), _, rfl, _, 50, rfl, rfl, _, rfl, ?_⟩
      rw [List.length_map]
      by_cases c : ((ns.length : Nat) : Int) < 50
      · rw [decide_eq_true c]
        refine iteT ⟨fun σ' H'' => ∃ m', m' < 50 - ns.length ∧ ∃ x y ns, σ' = [some (.ref a), some (.int 50), some (.ref b), some (.int (E1 : Nat)), some (.ref D), x, y] ∧ Same H1 H'' ∧ H'' D = some (.lst (ns.map V.int)) ∧ m' = 50 - ns.length ∧ ns.length ≤ 113 ∧ Sml ns, fun σ' H'' h => h, ?_⟩
        refine ⟨_, rfl, .inl ⟨rfl, _, SqL.of e3⟩, D, _, _, rfl, rfl, e3, by rw [List.length_map]; exact small1000 (by omega), ?_⟩
        refine ⟨50 - (ns ++ [0]).length, by rw [List.length_append, List.length_singleton]; omega, _, _, ns ++ [0], rfl, same_upd s3 nD, ?_, rfl, by rw [List.length_append, List.length_singleton]; omega, hs3.snoc (by decide) (by decide)⟩
        rw [upd_same, List.map_append]
        rfl
      · rw [decide_eq_false c]
        refine iteF ⟨_, rfl, _, rfl, 50, rfl, D, _, rfl, SqL.of e3, fun p np => ?_⟩
        have sp := same_new (o := .lst (cutV (ns.map V.int) none (some 50))) np
        refine k p (ns.take 50) _ ((sb.trans s3).trans sp) (SqL.of ?_) (by rw [List.length_take]; omega) (fun n hn => hs3 n (List.mem_of_mem_take hn))
        rw [upd_same, show (50 : Int) = ((50 : Nat) : Int) from rfl, cutV0]
end
end TPW
namespace TPW
open PySem PySem.Spec PyProof.Rows L2 TP
open RZ (ItzT pi_zipA iZipA)
open C8 (Cal Def cal0 pe_c fnScope fnBody fnArgs fnScope_by pe_gc)
def rIntK : List V → Hp → VK → Prop := fun xs H Q => (∃ i, xs = [.int i] ∧ Q (.int i) H) ∨ ∃ k, xs = [.bl k] ∧ Q (.int (if k then 1 else 0)) H
theorem call_intK {X : Cx} : CallR X (.type "int") rIntK := call_int1
/-- [x for x in a tuple of ints if ..] -/
theorem lc_intsF {K : PySem.W.Frag} {a D : Addr} {ns : List Int} {tt : TT} {te : TE} {σ : L2.St} {H1 : Hp} {Qd : Hp → Prop} {i : Nat} (hS : SqT K H1 a (ns.map V.int)) (nD : H1 D = none) (hn : ns.length < sizeLine) (f : Int → Bool)
    (ht : ∀ n H (Qb : Bool → Hp → Prop), n ∈ ns → Same H1 H → Qb (f n) H → tt ((wipe σ [i]).set i (some (.int n))) H Qb)
    (hs : ∀ n H (Qk : VK), n ∈ ns → Same H1 H → Qk (.int n) H → te ((wipe σ [i]).set i (some (.int n))) H Qk)
    (hd : ∀ H, Same H1 H → H D = some (.lst ((ns.filter f).map V.int)) → Qd H) :
    ∃ W : Nat → Nat → Hp → Prop, (∃ m, W 0 m (upd H1 D (.lst []))) ∧ ∀ j m H, W j m H →
      ((Itt K a).stop j H ∧ Qd H) ∨ ((Itt K a).go j H ∧ ∃ Nx : Hp → Prop, (∀ H', Nx H' → ∃ m', m' < m ∧ W (j + 1) m' H') ∧ ∀ x H', (Itt K a).yld j H x H' → gName i x (wipe σ [i]) H' fun σ2 H2 => wipe σ2 [i] = wipe σ [i] ∧ tt σ2 H2 fun b H3 =>
        if b = true then te σ2 H3 fun y H4 => ∃ acc, H4 D = some (.lst acc) ∧ acc.length < sizeLine ∧ Nx (upd H4 D (.lst (acc ++ [y]))) else Nx H3) := by
  refine lc_it (walk_tup (xs := ns.map V.int)) (fun j H => Same H1 H ∧ H D = some (.lst (((ns.take j).filter f).map V.int))) ⟨same_new nD, upd_same⟩ (fun j H _ h => SqT.same h.1 hS) (fun j x H H' hj h hy => ?_) (fun H h => ?_)
  · obtain ⟨s, eD⟩ := h
    obtain ⟨rfl, e⟩ := hy
    rw [List.getElem?_map] at e
    obtain ⟨n, en, rfl⟩ := Option.map_eq_some_iff.mp e
    have hnm := List.mem_of_getElem? en
    have et : (ns.take (j + 1)).filter f = (ns.take j).filter f ++ (if f n = true then [n] else []) := by
      rw [List.take_add_one, en, List.filter_append]
      show _ ++ List.filter f [n] = _
      cases h : f n <;> simp [h]
    refine ⟨?_, ht n _ _ hnm s ?_⟩
    · simp only [wipe]
      rw [List.set_set, List.set_set]
    · by_cases c : f n = true
      · rw [if_pos c]
        refine hs n _ _ hnm s ⟨_, eD, ?_, same_upd s nD, ?_⟩
        · rw [List.length_map]
          have h1 := List.length_filter_le f (ns.take j)
          rw [List.length_take] at h1
          omega
        · rw [upd_same, et, if_pos c, List.map_append]
          rfl
      · rw [if_neg c]
        refine ⟨s, ?_⟩
        rw [et, if_neg c, List.append_nil]
        exact eD
  · obtain ⟨s, eD⟩ := h
    rw [List.length_map, List.take_length] at eD
    exact hd H s eD
section
variable {P : Program} {w : World} {K : PySem.W.Frag} {mg : Str → Option Value} {base : Heap}
def spLProd (K : PySem.W.Frag) : Sp := fun vs H Q _ => ∃ v u p q, vs = [v, u] ∧ IsQ K v p H ∧ IsQ K u q H ∧ Bs 20 p ∧ ∀ z H', Same H H' → IsQ K z (mul p q) H' → Q z H'
theorem cmul20 {x y : Int} (h : x.natAbs < 2 ^ 20) : CMul x y := cmul_small (by omega) (by omega)
theorem c_law_product (T : TopOk K mg) : Cal P w K mg base 1 "_law_product" (spLProd K) [] := by
  refine mkcal T.d_law_product sc_law_product (fun vs H Q E h => ?_) (fun f cdv A outer s H vs Q E hr h => ?_)
  · obtain ⟨v, u, p, q, rfl, _⟩ := h
    rfl
  · obtain ⟨v, u, p, q, rfl, ⟨a, rfl, ha⟩, ⟨b, rfl, hb⟩, hp, k⟩ := h
    have ma := fun y => cmul20 (y := y) hp.a
    have mb := fun y => cmul20 (y := y) hp.b
    have mc := fun y => cmul20 (y := y) hp.c
    have md := fun y => cmul20 (y := y) hp.d
    refine ⟨_, (pss_cons (ps_asg (pv 0) (pg_tup rfl (pgs_cons (pg_name (i := 2) sc_law_product.nd rfl (Or.inl rfl)) (pgs_cons (pg_name (i := 3) sc_law_product.nd rfl (Or.inl rfl)) (pgs_cons (pg_name (i := 4) sc_law_product.nd rfl (Or.inl rfl)) (pgs_cons (pg_name (i := 5) sc_law_product.nd rfl (Or.inl rfl)) pgs_nil))))))
      (pss_cons (ps_asg (pv 1) (pg_tup rfl (pgs_cons (pg_name (i := 6) sc_law_product.nd rfl (Or.inl rfl)) (pgs_cons (pg_name (i := 7) sc_law_product.nd rfl (Or.inl rfl)) (pgs_cons (pg_name (i := 8) sc_law_product.nd rfl (Or.inl rfl)) (pgs_cons (pg_name (i := 9) sc_law_product.nd rfl (Or.inl rfl)) pgs_nil))))))
      (pss_cons (ps_set (i := 10) sc_law_product.nd rfl (Or.inl rfl) (pe_op op_sub (pe_op op_sub (pe_op op_sub (pe_op op_mul (pv 2) (pv 6)) (pe_op op_mul (pv 3) (pv 7))) (pe_op op_mul (pv 4) (pv 8))) (pe_op op_mul (pv 5) (pv 9))))
      (pss_cons (ps_set (i := 11) sc_law_product.nd rfl (Or.inl rfl) (pe_op op_sub (pe_op op_add (pe_op op_add (pe_op op_mul (pv 2) (pv 7)) (pe_op op_mul (pv 3) (pv 6))) (pe_op op_mul (pv 4) (pv 9))) (pe_op op_mul (pv 5) (pv 8))))
      (pss_cons (ps_set (i := 12) sc_law_product.nd rfl (Or.inl rfl) (pe_op op_add (pe_op op_add (pe_op op_sub (pe_op op_mul (pv 2) (pv 8)) (pe_op op_mul (pv 3) (pv 9))) (pe_op op_mul (pv 4) (pv 6))) (pe_op op_mul (pv 5) (pv 7))))
      (pss_cons (ps_set (i := 13) sc_law_product.nd rfl (Or.inl rfl) (pe_op op_add (pe_op op_sub (pe_op op_add (pe_op op_mul (pv 2) (pv 9)) (pe_op op_mul (pv 3) (pv 8))) (pe_op op_mul (pv 4) (pv 7))) (pe_op op_mul (pv 5) (pv 6))))
      (pss_one (ps_ret (pe_tup (pa_cons (pe_op op_fdiv (pv 10) pe_int) (pa_cons (pe_op op_fdiv (pv 11) pe_int) (pa_cons (pe_op op_fdiv (pv 12) pe_int) (pa_cons (pe_op op_fdiv (pv 13) pe_int) pa_nil))))))))))))), ?_⟩
    rw [show L2.start N_law_product [.ref a, .ref b] = [some (.ref a), some (.ref b), none, none, none, none, none, none, none, none, none, none, none, none] from rfl]
    refine ⟨_, rfl, a, _, rfl, ha, rfl, _, _, rfl, _, _, rfl, _, _, rfl, _, _, rfl, rfl, ?_⟩
    refine ⟨_, rfl, b, _, rfl, hb, rfl, _, _, rfl, _, _, rfl, _, _, rfl, _, _, rfl, rfl, ?_⟩
    simp only [List.set_cons_succ, List.set_cons_zero]
    refine ⟨_, rfl, _, rfl, _, _, rfl, rfl, ma _, ?_⟩
    refine ⟨_, rfl, _, rfl, _, _, rfl, rfl, mb _, ?_⟩
    refine ⟨_, _, rfl, rfl, _, rfl, _, rfl, _, _, rfl, rfl, mc _, ?_⟩
    refine ⟨_, _, rfl, rfl, _, rfl, _, rfl, _, _, rfl, rfl, md _, ?_⟩
    refine ⟨_, _, rfl, rfl, ?_⟩
    simp only [List.set_cons_succ, List.set_cons_zero]
    refine ⟨_, rfl, _, rfl, _, _, rfl, rfl, ma _, ?_⟩
    refine ⟨_, rfl, _, rfl, _, _, rfl, rfl, mb _, ?_⟩
    refine ⟨_, _, rfl, rfl, _, rfl, _, rfl, _, _, rfl, rfl, mc _, ?_⟩
    refine ⟨_, _, rfl, rfl, _, rfl, _, rfl, _, _, rfl, rfl, md _, ?_⟩
    refine ⟨_, _, rfl, rfl, ?_⟩
    simp only [List.set_cons_succ, List.set_cons_zero]
    refine ⟨_, rfl, _, rfl, _, _, rfl, rfl, ma _, ?_⟩
    refine ⟨_, rfl, _, rfl, _, _, rfl, rfl, mb _, ?_⟩
    refine ⟨_, _, rfl, rfl, _, rfl, _, rfl, _, _, rfl, rfl, mc _, ?_⟩
    refine ⟨_, _, rfl, rfl, _, rfl, _, rfl, _, _, rfl, rfl, md _, ?_⟩
    refine ⟨_, _, rfl, rfl, ?_⟩
    simp only [List.set_cons_succ, List.set_cons_zero]
    refine ⟨_, rfl, _, rfl, _, _, rfl, rfl, ma _, ?_⟩
    refine ⟨_, rfl, _, rfl, _, _, rfl, rfl, mb _, ?_⟩
    refine ⟨_, _, rfl, rfl, _, rfl, _, rfl, _, _, rfl, rfl, mc _, ?_⟩
    refine ⟨_, _, rfl, rfl, _, rfl, _, rfl, _, _, rfl, rfl, md _, ?_⟩
    refine ⟨_, _, rfl, rfl, ?_⟩
    simp only [List.set_cons_succ, List.set_cons_zero]
    refine ⟨_, rfl, _, 2, rfl, rfl, ⟨by decide, by decide⟩, ?_⟩
    refine ⟨_, rfl, _, 2, rfl, rfl, ⟨by decide, by decide⟩, ?_⟩
    refine ⟨_, rfl, _, 2, rfl, rfl, ⟨by decide, by decide⟩, ?_⟩
    refine ⟨_, rfl, _, 2, rfl, rfl, ⟨by decide, by decide⟩, ?_⟩
    refine ⟨by show 4 ≤ sizeLine; decide, fun l nl => ?_⟩
    exact k _ _ (same_new nl) (IsTI.new (ns := ql (mul p q)))
def spTurned (K : PySem.W.Frag) : Sp := fun vs H Q _ => ∃ v q, vs = [v] ∧ IsQ K v q H ∧ ∀ z H', Same H H' → IsQ K z (cj q) H' → Q z H'
theorem c_law_turned (T : TopOk K mg) : Cal P w K mg base 1 "_law_turned" (spTurned K) [] := by
  refine mkcal T.d_law_turned sc_law_turned (fun vs H Q E h => ?_) (fun f cdv A outer s H vs Q E hr h => ?_)
  · obtain ⟨v, q, rfl, _⟩ := h
    rfl
  · obtain ⟨v, q, rfl, ⟨a, rfl, ha⟩, k⟩ := h
    refine ⟨_, (pss_one (ps_ret (pe_tup (pa_cons (pe_ix ix_tup (pv 0) pe_int (fun _ _ => rfl)) (pa_cons (pe_un un_neg (pe_ix ix_tup (pv 0) pe_int (fun _ _ => rfl))) (pa_cons (pe_un un_neg (pe_ix ix_tup (pv 0) pe_int (fun _ _ => rfl))) (pa_cons (pe_un un_neg (pe_ix ix_tup (pv 0) pe_int (fun _ _ => rfl))) pa_nil))))))), ?_⟩
    refine ⟨_, rfl, a, _, 0, _, rfl, rfl, ha, atI_nat (j := 0) rfl, ?_⟩
    refine ⟨_, rfl, a, _, 1, _, rfl, rfl, ha, atI_nat (j := 1) rfl, _, rfl, ?_⟩
    refine ⟨_, rfl, a, _, 2, _, rfl, rfl, ha, atI_nat (j := 2) rfl, _, rfl, ?_⟩
    refine ⟨_, rfl, a, _, 3, _, rfl, rfl, ha, atI_nat (j := 3) rfl, _, rfl, ?_⟩
    exact ⟨by show 4 ≤ sizeLine; decide, fun l nl => k _ _ (same_new nl) (IsTI.new (ns := ql (cj q)))⟩
def spLNorm (K : PySem.W.Frag) : Sp := fun vs H Q _ => ∃ v q, vs = [v] ∧ IsQ K v q H ∧ Bs 60 q ∧ ∀ H', Same H H' → Q (.int (nrm q)) H'
theorem c_law_norm (T : TopOk K mg) : Cal P w K mg base 1 "_law_norm" (spLNorm K) [] := by
  refine mkcal T.d_law_norm sc_law_norm (fun vs H Q E h => ?_) (fun f cdv A outer s H vs Q E hr h => ?_)
  · obtain ⟨v, q, rfl, _⟩ := h
    rfl
  · obtain ⟨v, q, rfl, ⟨a, rfl, ha⟩, hb, k⟩ := h
    refine ⟨_, (pss_one (ps_ret (pe_op op_fdiv (pe_callB (cr_sum rfl) (by rfl) T.m_sum (by decide +kernel) (pa_cons (pe_lc (own := [("_law_part", 1)]) (g := gName 1) (tt := tYes) rfl sc_law_norm.nd (pi_tup (pv 0)) (blkOk_by (N := N_law_norm) (sc := fnScope s_law_norm) (by decide +kernel)) (fun _ _ _ _ _ => (pg_name (i := 1) sc_law_norm.nd rfl (Or.inl rfl))) (fun _ _ _ _ _ => pts_nil) (fun _ _ _ _ _ => (pe_op op_mul (pv 1) (pv 1)))) pa_nil)) pe_int))), ?_⟩
    refine ⟨_, rfl, a, rfl, ⟨_, ha⟩, fun D nD => lc_intsT ha nD (ql_len q) (fun x => x * x) (fun n H2 Qk hn s2 k2 => ?_) (fun H2 s2 e2 => ?_)⟩
    · have hm : CMul n n := by
        have : n.natAbs < 2 ^ 60 := by
          unfold ql at hn
          simp only [List.mem_cons, List.not_mem_nil, or_false] at hn
          rcases hn with rfl | rfl | rfl | rfl
          · exact hb.a
          · exact hb.b
          · exact hb.c
          · exact hb.d
        exact cmul_small (by omega) (by omega)
      exact ⟨_, rfl, _, rfl, n, n, rfl, rfl, hm, k2⟩
    · refine ⟨D, _, rfl, SqL.of e2, _, 4, rfl, rfl, ⟨by decide, by decide⟩, ?_⟩
      rw [n4_sum]
      exact k H2 s2

theorem fil4 {f : Int → Bool} {q : Hq} : decide ((0 : Int) < (((ql q).filter f).map V.int).length) = (f q.a || f q.b || f q.c || f q.d) := by
  rw [List.length_map]
  unfold ql
  simp only [List.filter_cons, List.filter_nil]
  cases f q.a <;> cases f q.b <;> cases f q.c <;> cases f q.d <;> rfl
theorem fil_dv {p : Int} {q : Hq} : ((!decide (q.a % p = 0)) || (!decide (q.b % p = 0)) || (!decide (q.c % p = 0)) || (!decide (q.d % p = 0))) = !decide (Dv p q) := by
  have e : ∀ x : Int, decide (x % p = 0) = decide (p ∣ x) := fun x => decide_eq_decide.mpr Int.dvd_iff_emod_eq_zero.symm
  rw [e, e, e, e]
  unfold Dv
  by_cases h1 : p ∣ q.a <;> by_cases h2 : p ∣ q.b <;> by_cases h3 : p ∣ q.c <;> by_cases h4 : p ∣ q.d <;> simp [h1, h2, h3, h4]
theorem fil_par {q : Hq} (h : IsN q) : ((!decide ((q.a - q.a) % 2 = 0)) || (!decide ((q.b - q.a) % 2 = 0)) || (!decide ((q.c - q.a) % 2 = 0)) || (!decide ((q.d - q.a) % 2 = 0))) = false := by
  obtain ⟨h1, h2, h3⟩ := h
  rw [decide_eq_true (show (q.a - q.a) % 2 = 0 by omega), decide_eq_true (show (q.b - q.a) % 2 = 0 by omega), decide_eq_true (show (q.c - q.a) % 2 = 0 by omega), decide_eq_true (show (q.d - q.a) % 2 = 0 by omega)]
  rfl
theorem divQ_isN {p : Int} (hp : IsP p) {q : Hq} (h : IsN q) (hd : Dv p q) : IsN (divQ q p) ∧ q = scl p (divQ q p) := by
  obtain ⟨v, hv, rfl⟩ := dv_scl hp h hd
  have := (isP_rng hp).1
  rw [divQ_scl (by omega)]
  exact ⟨hv, rfl⟩
def spDivd (K : PySem.W.Frag) : Sp := fun vs H Q _ => ∃ v p q, vs = [v, .int p] ∧ IsP p ∧ IsQ K v q H ∧ IsN q ∧ (Dv p q → ∀ z H', Same H H' → IsQ K z (divQ q p) H' → Q z H') ∧ (¬ Dv p q → ∀ H', Same H H' → Q .non H')
theorem c_law_divided (T : TopOk K mg) : Cal P w K mg base 1 "_law_divided" (spDivd K) [] := by
  refine mkcal T.d_law_divided sc_law_divided (fun vs H Q E h => ?_) (fun f cdv A outer s H vs Q E hr h => ?_)
  · obtain ⟨v, p, q, rfl, _⟩ := h
    rfl
  · obtain ⟨v, p, q, rfl, hp, ⟨a, rfl, ha⟩, hN, k1, k2⟩ := h
    have p3 := (isP_rng hp).1
    refine ⟨_, (pss_cons (ps_if (pt_cmpR op_gt (pe_callB call_len_seq (by rfl) T.m_len (by decide +kernel) (pa_cons (pe_lc (own := [("_law_part", 3)]) (g := gName 3) (tt := tTest (tOp rNe (tOp (rI (fun _ j => 0 < j) fun i j => V.int (i % j)) (tCB rIntK (tCons (tVar 3) tNil)) (tVar 1)) (tC (.int 0)))) rfl sc_law_divided.nd (pi_tup (pv 0)) (blkOk_by (N := N_law_divided) (sc := fnScope s_law_divided) (by decide +kernel)) (fun _ _ _ _ _ => (pg_name (i := 3) sc_law_divided.nd rfl (Or.inl rfl))) (fun _ _ _ _ _ => (pts_one (pt_cmpR op_ne (pe_op op_mod (pe_callTy call_intK (by rfl) T.m_int (by decide +kernel) (pa_cons (pv 3) pa_nil)) (pv 1)) pe_int (nomark _)))) (fun _ _ _ _ _ => (pv 3))) pa_nil)) pe_int (nomark _)) (pss_one (ps_ret pe_non)) pss_nil)
      (pss_cons (ps_set (i := 2) sc_law_divided.nd rfl (Or.inr rfl) (pe_callTy call_tuple_of (by rfl) T.m_tuple (by decide +kernel) (pa_cons (pe_lc (own := [("_law_part", 3)]) (g := gName 3) (tt := tYes) rfl sc_law_divided.nd (pi_tup (pv 0)) (blkOk_by (N := N_law_divided) (sc := fnScope s_law_divided) (by decide +kernel)) (fun _ _ _ _ _ => (pg_name (i := 3) sc_law_divided.nd rfl (Or.inl rfl))) (fun _ _ _ _ _ => pts_nil) (fun _ _ _ _ _ => (pe_op op_fdiv (pv 3) (pv 1)))) pa_nil)))
      (pss_cons (ps_if (pt_cmpR op_gt (pe_callB call_len_seq (by rfl) T.m_len (by decide +kernel) (pa_cons (pe_lc (own := [("_law_part", 3)]) (g := gName 3) (tt := tTest (tOp rNe (tOp (rI (fun _ j => 0 < j) fun i j => V.int (i % j)) (tCB rIntK (tCons (tOp (rI0 fun i j => V.int (i - j)) (tVar 3) (tOp (rIxT K) (tVar 2) (tC (.int 0)))) tNil)) (tC (.int 2))) (tC (.int 0)))) rfl sc_law_divided.nd (pi_tup (pv 2)) (blkOk_by (N := N_law_divided) (sc := fnScope s_law_divided) (by decide +kernel)) (fun _ _ _ _ _ => (pg_name (i := 3) sc_law_divided.nd rfl (Or.inl rfl))) (fun _ _ _ _ _ => (pts_one (pt_cmpR op_ne (pe_op op_mod (pe_callTy call_intK (by rfl) T.m_int (by decide +kernel) (pa_cons (pe_op op_sub (pv 3) (pe_ix ix_tup (pv 2) pe_int (fun _ _ => rfl))) pa_nil)) pe_int) pe_int (nomark _)))) (fun _ _ _ _ _ => (pv 3))) pa_nil)) pe_int (nomark _)) (pss_one (ps_ret pe_non)) pss_nil)
      (pss_one (ps_ret (pv 2)))))), ?_⟩
    rw [show L2.start N_law_divided [.ref a, .int p] = [some (.ref a), some (.int p), none, none] from rfl]
    refine ⟨_, rfl, a, rfl, ⟨_, ha⟩, fun D nD => lc_intsF ha nD (ql_len q) (fun x => !decide (x % p = 0)) (fun n H2 Qb hn s2 h2 => ?_) (fun n H2 Qk hn s2 h2 => ⟨_, rfl, h2⟩) (fun H2 s2 e2 => ?_)⟩
    · refine ⟨_, rfl, .inl ⟨n, rfl, _, rfl, n, p, rfl, rfl, by show 0 < p; omega, rfl, _, rfl, ?_⟩⟩
      rw [decV]
      exact h2
    · refine ⟨D, _, rfl, .inl (SqL.of e2), _, 0, rfl, rfl, _, rfl, ?_⟩
      rw [fil4, fil_dv]
      by_cases c : Dv p q
      · rw [decide_eq_true c]
        refine iteF ?_
        have ha2 := SqT.same s2 ha
        refine ⟨_, rfl, a, rfl, ⟨_, ha2⟩, fun D3 nD3 => lc_intsT ha2 nD3 (ql_len q) (fun x => x / p) (fun n H3 Qk hn s3 h3 => ?_) (fun H3 s3 e3 => ?_)⟩
        · exact ⟨_, rfl, _, rfl, n, p, rfl, rfl, ⟨by omega, by have := (isP_rng hp).2.1; omega⟩, h3⟩
        · refine ⟨D3, _, rfl, .inl ⟨SqL.of e3, fun l nl => ?_⟩⟩
          have sl := same_new (o := .tup (((ql q).map fun x => x / p).map V.int)) nl
          have hl : SqT K (upd H3 l (.tup (((ql q).map fun x => x / p).map V.int))) l ((ql (divQ q p)).map V.int) := SqT.of upd_same
          have s4 := (s2.trans s3).trans sl
          generalize upd H3 l (.tup (((ql q).map fun x => x / p).map V.int)) = H4 at sl hl s4 ⊢
          simp only [List.set_cons_succ, List.set_cons_zero]
          obtain ⟨hN2, _⟩ := divQ_isN hp hN c
          refine ⟨_, rfl, l, rfl, ⟨_, hl⟩, fun D5 nD5 => lc_intsF hl nD5 (ql_len (divQ q p)) (fun x => !decide ((x - (divQ q p).a) % 2 = 0)) (fun n H6 Qb hn s6 h6 => ?_) (fun n H6 Qk hn s6 h6 => ⟨_, rfl, h6⟩) (fun H6 s6 e6 => ?_)⟩
          · refine ⟨_, rfl, _, rfl, l, _, 0, _, rfl, rfl, SqT.same s6 hl, atI_nat (j := 0) rfl, n, (divQ q p).a, rfl, rfl, .inl ⟨_, rfl, _, 2, rfl, rfl, by show (0 : Int) < 2; decide, rfl, _, rfl, ?_⟩⟩
            rw [decV]
            exact h6
          · refine ⟨D5, _, rfl, .inl (SqL.of e6), _, 0, rfl, rfl, _, rfl, ?_⟩
            rw [fil4, fil_par hN2]
            exact iteF ⟨_, rfl, k1 c _ H6 (s4.trans s6) ⟨l, rfl, SqT.same s6 hl⟩⟩
      · rw [decide_eq_false c]
        exact iteT (k2 c H2 s2)
end
end TPW
namespace TPW
open PySem PySem.Spec PyProof.Rows L2 TP
open RZ (ItzT pi_zipA iZipA)
open C8 (Cal Def cal0 pe_c fnScope fnBody fnArgs fnScope_by pe_gc)
section
variable {P : Program} {w : World} {K : PySem.W.Frag} {mg : Str → Option Value} {base : Heap}
def spLWord (K : PySem.W.Frag) : Sp := fun vs H Q _ => ∃ (b : Addr) (ns : List Int) (at1 m : Nat) (p : Int), vs = [.ref b, .int (at1 : Nat), .int (m : Nat), .int p] ∧ SqL K H b (ns.map V.int) ∧ at1 + m ≤ ns.length ∧ ns.length ≤ 100 ∧ IsP p ∧
  ∀ v ms H', Same H H' → IsTT v ms H' → ms.length = m → IsW p ms → Q v H'
theorem c_law_word (T : TopOk K mg) : Cal P w K mg base 1 "_law_word" (spLWord K) [] := by
  refine mkcal T.d_law_word sc_law_word (fun vs H Q E h => ?_) (fun f cdv A outer s H vs Q E hr h => ?_)
  · obtain ⟨b, ns, at1, m, p, rfl, _⟩ := h
    rfl
  · obtain ⟨b, ns, at1, m, p, rfl, hb, hl, hl2, hp, k⟩ := h
    have p3 := (isP_rng hp).1
    refine ⟨_, (pss_one (ps_ret (pe_callTy call_tuple_of (by rfl) T.m_tuple (by decide +kernel) (pa_cons (pe_lc (own := [("_law_k", 4)]) (g := gName 4) (te := tOp (rI0 fun i j => V.int (i + j)) (tC (.int 1)) (tOp (rI (fun _ j => 0 < j) fun i j => V.int (i % j)) (tCB rIntK (tCons (tOp (rIxL K) (tVar 0) (tOp (rI0 fun i j => V.int (i + j)) (tVar 1) (tVar 4))) tNil)) (tOp (rI0 fun i j => V.int (i + j)) (tVar 3) (tC (.int 1))))) (tt := tYes) rfl sc_law_word.nd (pi_range1 (by rfl) T.m_range (pa_cons (pv 2) pa_nil)) (blkOk_by (N := N_law_word) (sc := fnScope s_law_word) (by decide +kernel)) (fun _ _ _ _ _ => (pg_name (i := 4) sc_law_word.nd rfl (Or.inl rfl))) (fun _ _ _ _ _ => pts_nil) (fun _ _ _ _ _ => (pe_op op_add pe_int (pe_op op_mod (pe_callTy call_intK (by rfl) T.m_int (by decide +kernel) (pa_cons (pe_ix ix_list (pv 0) (pe_op op_add (pv 1) (pv 4)) (fun _ _ => rfl)) pa_nil)) (pe_op op_add (pv 3) pe_int))))) pa_nil)))), ?_⟩
    rw [show L2.start N_law_word [.ref b, .int (at1 : Nat), .int (m : Nat), .int p] = [some (.ref b), some (.int (at1 : Nat)), some (.int (m : Nat)), some (.int p), none] from rfl]
    refine ⟨_, rfl, _, rfl, by omega, by omega, fun D nD => lc_rng (n := ((m : Nat) : Int).toNat) nD (small1000 (by omega)) (fun j => 1 + ns.getD (at1 + j) 0 % (p + 1)) (fun j H2 Qk hj s2 k2 => ?_) (fun H2 s2 e2 => ?_)⟩
    · have hlt : at1 + j < ns.length := by omega
      have en : ns[at1 + j]? = some (ns.getD (at1 + j) 0) := by
        rw [List.getD_eq_getElem?_getD, List.getElem?_eq_getElem hlt]
        rfl
      refine ⟨_, rfl, _, rfl, _, rfl, _, _, rfl, rfl, b, _, ((at1 + j : Nat) : Int), .int (ns.getD (at1 + j) 0), rfl, ?_, s2.seq hb, atI_nat (by rw [List.getElem?_map, en]; rfl), .inl ⟨_, rfl, _, rfl, p, 1, rfl, rfl, _, p + 1, rfl, rfl, by show (0 : Int) < p + 1; omega, 1, _, rfl, rfl, k2⟩⟩
      show V.int ((at1 : Int) + (0 + (j : Int))) = V.int ((at1 + j : Nat) : Int)
      congr 1
      omega
    · refine ⟨D, _, rfl, .inl ⟨SqL.of e2, fun l nl => ?_⟩⟩
      refine k _ _ _ (same_put s2 nl) IsTT.new (by rw [List.length_map, List.length_range]; omega) (fun n hn => ?_)
      obtain ⟨j, _, rfl⟩ := List.mem_map.mp hn
      have h1 := Int.emod_nonneg (ns.getD (at1 + j) 0) (b := p + 1) (by omega)
      have h2 := Int.emod_lt_of_pos (ns.getD (at1 + j) 0) (b := p + 1) (by omega)
      omega
def spLPrime : Sp := fun vs H Q _ => ∃ n : Int, vs = [.int n] ∧ ∀ p H', IsP p → Same H H' → Q (.int p) H'
theorem c_law_prime (T : TopOk K mg) : Cal P w K mg base 1 "_law_prime" spLPrime [] := by
  refine mkcal T.d_law_prime sc_law_prime (fun vs H Q E h => ?_) (fun f cdv A outer s H vs Q E hr h => ?_)
  · obtain ⟨n, rfl, _⟩ := h
    rfl
  · obtain ⟨n, rfl, k⟩ := h
    refine ⟨_, (pss_one (ps_ret (pe_ix ix_list (pe_lst (pa_cons pe_int (pa_cons pe_int (pa_cons pe_int (pa_cons pe_int (pa_cons pe_int (pa_cons pe_int (pa_cons pe_int (pa_cons pe_int pa_nil))))))))) (pe_op op_mod (pe_callTy call_int1 (by rfl) T.m_int (by decide +kernel) (pa_cons (pv 0) pa_nil)) pe_int) (fun _ _ => rfl)))), ?_⟩
    refine ⟨by show 8 ≤ sizeLine; decide, fun D nD => ?_⟩
    refine ⟨_, rfl, .inl ⟨_, rfl, n, 8, rfl, rfl, by show (0 : Int) < 8; decide, ?_⟩⟩
    have h0 := Int.emod_nonneg n (b := 8) (by decide)
    have h1 := Int.emod_lt_of_pos n (b := 8) (by decide)
    obtain ⟨j, hj, ej⟩ : ∃ j : Nat, j < 8 ∧ n % 8 = (j : Int) := ⟨(n % 8).toNat, by omega, by omega⟩
    obtain ⟨p, ep, hp⟩ : ∃ p, ([.int 3, .int 5, .int 3, .int 7, .int 5, .int 3, .int 11, .int 3] : List V)[j]? = some (.int p) ∧ IsP p := by
      unfold IsP
      rcases (by omega : j = 0 ∨ j = 1 ∨ j = 2 ∨ j = 3 ∨ j = 4 ∨ j = 5 ∨ j = 6 ∨ j = 7) with rfl | rfl | rfl | rfl | rfl | rfl | rfl | rfl
      · exact ⟨3, rfl, by decide⟩
      · exact ⟨5, rfl, by decide⟩
      · exact ⟨3, rfl, by decide⟩
      · exact ⟨7, rfl, by decide⟩
      · exact ⟨5, rfl, by decide⟩
      · exact ⟨3, rfl, by decide⟩
      · exact ⟨11, rfl, by decide⟩
      · exact ⟨3, rfl, by decide⟩
    refine ⟨D, _, n % 8, .int p, rfl, rfl, SqL.of upd_same, ?_, k p _ hp (same_new nD)⟩
    rw [ej]
    exact atI_nat ep
def spLPow : Sp := fun vs H Q _ => ∃ (p : Int) (n : Nat), vs = [.int p, .int (p ^ n)] ∧ IsP p ∧ n ≤ 60 ∧ ∀ H', Same H H' → Q (.int (n : Nat)) H'
theorem c_law_power (T : TopOk K mg) : Cal P w K mg base 1 "_law_power" spLPow [] := by
  refine mkcal T.d_law_power sc_law_power (fun vs H Q E h => ?_) (fun f cdv A outer s H vs Q E hr h => ?_)
  · obtain ⟨p, n, rfl, _⟩ := h
    rfl
  · obtain ⟨p, n, rfl, hp, hn, k⟩ := h
    have p3 := (isP_rng hp).1
    have hpos : ∀ j : Nat, 0 < p ^ j := fun j => Int.pow_pos (by omega)
    refine ⟨_, (pss_cons (ps_set (i := 2) sc_law_power.nd rfl (Or.inl rfl) pe_int)
      (pss_cons (ps_for PassesOwn.never rfl (pi_range1 (by rfl) T.m_range (pa_cons pe_int pa_nil)) (pg_name (i := 3) sc_law_power.nd rfl (Or.inl rfl)) (pss_one (ps_if (PW.pt (pw_and (pt_cmpR op_gt (pv 1) pe_int (nomark _)) (pw_and1 (pt_cmpR op_eq (pe_op op_mod (pe_callTy call_int1 (by rfl) T.m_int (by decide +kernel) (pa_cons (pv 1) pa_nil)) (pv 0)) pe_int (nomark _))))) (pss_cons (ps_set (i := 1) sc_law_power.nd rfl (Or.inl rfl) (pe_op op_fdiv (pv 1) (pv 0)))
      (pss_one (ps_set (i := 2) sc_law_power.nd rfl (Or.inl rfl) (pe_op op_add (pv 2) pe_int)))) pss_nil)))
      (pss_one (ps_ret (pv 2))))), ?_⟩
    rw [show L2.start N_law_power [.int p, .int (p ^ n)] = [some (.int p), some (.int (p ^ n)), none, none] from rfl]
    refine ⟨60, rfl, by decide, by decide, for_range (n := 60) (fun i σ H' => ∃ y, σ = [some (.int p), some (.int (p ^ (n - i))), some (.int ((min i n : Nat) : Int)), y] ∧ Same H H') ⟨_, by rw [Nat.zero_min]; rfl, Same.refl _⟩ (fun i σ H2 hi h2 => ?_) (fun σ H2 h2 => ?_)⟩
    · obtain ⟨y, rfl, s2⟩ := h2
      refine ⟨_, rfl, _, 1, rfl, rfl, _, rfl, ?_⟩
      by_cases c : i < n
      · have e0 : n - i = (n - (i + 1)) + 1 := by omega
        have e1 : p ^ (n - i) = p ^ (n - (i + 1)) * p := by rw [e0]; exact Int.pow_succ ..
        have h1 : 1 < p ^ (n - i) := by
          have h2 := hpos (n - (i + 1))
          have h3 : 1 * p ≤ p ^ (n - (i + 1)) * p := Int.mul_le_mul_of_nonneg_right (by omega) (by omega)
          omega
        have h3 : p ^ (n - i) % p = 0 := by rw [e1]; exact Int.mul_emod_left ..
        have h4 : p ^ (n - i) / p = p ^ (n - (i + 1)) := by rw [e1]; exact Int.mul_ediv_cancel _ (by omega)
        rw [decide_eq_true h1]
        refine iteT ⟨_, rfl, .inl ⟨_, rfl, _, rfl, _, p, rfl, rfl, by show 0 < p; omega, rfl, _, rfl, ?_⟩⟩
        rw [decV, decide_eq_true h3]
        refine iteT ⟨_, rfl, _, rfl, _, p, rfl, rfl, ⟨by omega, by have := (isP_rng hp).2.1; omega⟩, ?_⟩
        refine ⟨_, rfl, _, 1, rfl, rfl, ?_⟩
        refine ⟨some (.int (0 + (i : Int))), ?_, s2⟩
        show [some (V.int p), some (V.int (p ^ (n - i) / p)), some (V.int (((min i n : Nat) : Int) + 1)), some (V.int (0 + (i : Int)))] = _
        rw [h4, show ((min (i + 1) n : Nat) : Int) = ((min i n : Nat) : Int) + 1 by omega]
      · have e0 : n - i = 0 := by omega
        have e1 : ¬ (1 : Int) < p ^ (n - i) := by rw [e0, Int.pow_zero]; decide
        rw [decide_eq_false e1]
        refine iteF (iteF ⟨some (.int (0 + (i : Int))), ?_, s2⟩)
        show [some (V.int p), some (V.int (p ^ (n - i))), some (V.int ((min i n : Nat) : Int)), some (V.int (0 + (i : Int)))] = _
        rw [show n - (i + 1) = n - i by omega, show min (i + 1) n = min i n by omega]
    · obtain ⟨y, rfl, s2⟩ := h2
      refine ⟨_, rfl, ?_⟩
      rw [show min 60 n = n by omega]
      exact k H2 s2
end
end TPW
namespace TPW
open PySem PySem.Spec PyProof.Rows L2 TP
open RZ (ItzT pi_zipA iZipA)
open C8 (Cal Def cal0 pe_c fnScope fnBody fnArgs fnScope_by pe_gc)
section
variable {P : Program} {w : World} {K : PySem.W.Frag} {mg : Str → Option Value} {base : Heap}
structure W3 (K : PySem.W.Frag) (p : Int) (D : Addr) (x0 x1 x2 : V) (m0 m1 m2 : List Int) (H : Hp) : Prop where
  e : H D = some (.lst [x0, x1, x2])
  w0 : Wd K p x0 m0 H
  w1 : Wd K p x1 m1 H
  w2 : Wd K p x2 m2 H
  l0 : m0.length ≤ 5
  l1 : m1.length ≤ 5
theorem W3.same {p : Int} {D : Addr} {x0 x1 x2 : V} {m0 m1 m2 : List Int} {H H' : Hp} (s : Same H H') (h : W3 K p D x0 x1 x2 m0 m1 m2 H) : W3 K p D x0 x1 x2 m0 m1 m2 H' :=
  ⟨s _ _ h.e, h.w0.same s, h.w1.same s, h.w2.same s, h.l0, h.l1⟩
theorem catT {x y : V} {ns ms : List Int} {H : Hp} {Q : VK} (hx : IsTI K x ns H) (hy : IsTI K y ms H) (hl : ns.length + ms.length ≤ 1000) (k : ∀ z H', Same H H' → IsTI K z (ns ++ ms) H' → Q z H') : rCatA K x y H Q := by
  obtain ⟨a, rfl, ha⟩ := hx
  obtain ⟨b, rfl, hb⟩ := hy
  refine ⟨a, b, _, _, rfl, rfl, ha, hb, by rw [List.length_map, List.length_map]; exact Nat.le_of_lt (small1000 hl), fun e => ?_, fun _ e => ?_, fun _ _ p np => ?_⟩
  · refine k _ H (Same.refl _) ⟨b, rfl, ?_⟩
    rw [List.map_eq_nil_iff.mp e, List.nil_append]
    exact hb
  · refine k _ H (Same.refl _) ⟨a, rfl, ?_⟩
    rw [List.map_eq_nil_iff.mp e, List.append_nil]
    exact ha
  · rw [← List.map_append]
    exact k _ _ (same_new np) IsTI.new
def spLaw (K : PySem.W.Frag) : Sp := fun vs H Q _ => ∃ (a : Addr) (cs : List Int), vs = [.ref a] ∧ SqL K H a (cs.map V.int) ∧ cs.length ≤ 63 ∧ ∀ H', Q (.bl true) H'
theorem ok_law (T : TopOk K mg) {f : Addr} {fd : FuncData} (F : Def K mg "law" s_law f fd) : FnOk P w K mg base C8.CX0 12 f fd ["_law_script"] (spLaw K) := by
  refine C8.fn0 F.fn sc_law (fun vs H Q E h => ?_) (fun cdv A outer s H vs Q E hr h => ?_)
  · obtain ⟨a, cs, rfl, _⟩ := h
    rfl
  · obtain ⟨a, cs, rfl, ha, hc, k⟩ := h
    refine ⟨_, (pss_cons (ps_set (i := 1) sc_law.nd rfl (Or.inr rfl) (pe_c (c_law_numbers T) hr (by decide) rfl (pa_cons (pv 0) (pa_cons pe_int pa_nil))))
      (pss_cons (ps_set (i := 2) sc_law.nd rfl (Or.inr rfl) (pe_c (c_law_prime T) hr (by decide) rfl (pa_cons (pe_ix ix_list (pv 1) pe_int (fun _ _ => rfl)) pa_nil)))
      (pss_cons (ps_setLc (i := 4) (own := [("_law_k", 3)]) (g := gName 3) (te := tCall (spLWord K) [] C8.E0 (tCons (tVar 1) (tCons (tOp (rI0 fun i j => V.int (i + j)) (tC (.int 10)) (tOp (rI CMul fun i j => V.int (i * j)) (tC (.int 10)) (tVar 3))) (tCons (tOp (rI (fun _ j => 0 < j) fun i j => V.int (i % j)) (tCB rIntK (tCons (tOp (rIxL K) (tVar 1) (tOp (rI0 fun i j => V.int (i + j)) (tC (.int 1)) (tVar 3))) tNil)) (tC (.int 6))) (tCons (tVar 2) tNil))))) (tt := tYes) rfl sc_law.nd rfl rfl (sw_true rfl rfl rfl (by decide +kernel)) (pi_range1 (by rfl) T.m_range (pa_cons pe_int pa_nil)) (blkOk_by (N := N_law) (sc := fnScope s_law) (by decide +kernel)) (fun _ _ _ _ _ => (pg_name (i := 3) sc_law.nd rfl (Or.inl rfl))) (fun _ _ _ _ _ => pts_nil) (fun _ _ _ _ _ => (pe_c (c_law_word T) hr (by decide) rfl (pa_cons (pv 1) (pa_cons (pe_op op_add pe_int (pe_op op_mul pe_int (pv 3))) (pa_cons (pe_op op_mod (pe_callTy call_intK (by rfl) T.m_int (by decide +kernel) (pa_cons (pe_ix ix_list (pv 1) (pe_op op_add pe_int (pv 3)) (fun _ _ => rfl)) pa_nil)) pe_int) (pa_cons (pv 2) pa_nil)))))))
      (C8.pss_cut (ps_if (pt_cmpR op_eq (pe_op op_mod (pe_callTy call_int1 (by rfl) T.m_int (by decide +kernel) (pa_cons (pe_ix ix_list (pv 1) pe_int (fun _ _ => rfl)) pa_nil)) pe_int) pe_int (nomark _)) (pss_one (ps_asg (pe_op op_catA (pe_slice sl_tupA (pe_ix ix_list (pv 4) pe_int (fun _ _ => rfl)) po_none (po_some pe_int)) (pe_slice sl_tupA (pe_ix ix_list (pv 4) pe_int (fun _ _ => rfl)) po_none (po_some pe_int))) (pg_sub (pv 4) pe_int set_list))) pss_nil)
      (pss_cons (ps_set (i := 5) sc_law.nd rfl (Or.inl rfl) (pe_c (c_law_product T) hr (by decide) rfl (pa_cons (pe_c (c_law_turned T) hr (by decide) rfl (pa_cons (pe_c (c_product_at T) hr (by decide) rfl (pa_cons (pv 2) (pa_cons (pe_ix ix_list (pv 4) pe_int (fun _ _ => rfl)) pa_nil))) pa_nil)) (pa_cons (pe_c (c_product_at T) hr (by decide) rfl (pa_cons (pv 2) (pa_cons (pe_ix ix_list (pv 4) pe_int (fun _ _ => rfl)) pa_nil))) pa_nil))))
      (pss_cons (ps_for PassesOwn.never rfl (pi_range1 (by rfl) T.m_range (pa_cons pe_int pa_nil)) (pg_name (i := 6) sc_law.nd rfl (Or.inl rfl)) (pss_cons (ps_set (i := 7) sc_law.nd rfl (Or.inl rfl) (pe_c (c_law_divided T) hr (by decide) rfl (pa_cons (pv 5) (pa_cons (pv 2) pa_nil))))
      (pss_one (ps_if (pt_cmpR op_notN (pv 7) pe_non (nomark _)) (pss_one (ps_set (i := 5) sc_law.nd rfl (Or.inl rfl) (pv 7))) pss_nil))))
      (pss_cons (ps_set (i := 8) sc_law.nd rfl (Or.inl rfl) (pe_c (c_distance T) hr (by decide) rfl (pa_cons (pv 2) (pa_cons (pe_ix ix_list (pv 4) pe_int (fun _ _ => rfl)) (pa_cons (pe_ix ix_list (pv 4) pe_int (fun _ _ => rfl)) pa_nil)))))
      (pss_cons (ps_if (pt_cmpR op_ne (pv 8) (pe_c (c_law_power T) hr (by decide) rfl (pa_cons (pv 2) (pa_cons (pe_c (c_law_norm T) hr (by decide) rfl (pa_cons (pv 5) pa_nil)) pa_nil))) (nomark _)) (pss_one (ps_ret pe_bl)) pss_nil)
      (pss_cons (ps_setLc (i := 9) (own := [("_law_word_here", 13)]) (g := gName 13) (te := tOp (rIxT K) (tCall (spReduced K) [] C8.E0 (tCons (tVar 2) (tCons (tVar 13) tNil))) (tC (.int 1))) (tt := tYes) rfl sc_law.nd rfl rfl (sw_true rfl rfl rfl (by decide +kernel)) (pi_list (pv 4)) (blkOk_by (N := N_law) (sc := fnScope s_law) (by decide +kernel)) (fun _ _ _ _ _ => (pg_name (i := 13) sc_law.nd rfl (Or.inl rfl))) (fun _ _ _ _ _ => pts_nil) (fun _ _ _ _ _ => (pe_ix ix_tup (pe_c (c_reduced T) hr (by decide) rfl (pa_cons (pv 2) (pa_cons (pv 13) pa_nil))) pe_int (fun _ _ => rfl))))
      (pss_cons (ps_if (PW.pt (pw_or (pt_cmpR op_ne (pe_cmpR op_eq (pv 8) pe_int (nomark _)) (pe_cmpR (op_eqT hr.units) (pe_ix ix_list (pv 9) pe_int (fun _ _ => rfl)) (pe_ix ix_list (pv 9) pe_int (fun _ _ => rfl)) (nomark _)) (nomark _)) (pw_or1 (pt_cmpR op_ne (pe_c (c_distance T) hr (by decide) rfl (pa_cons (pv 2) (pa_cons (pe_ix ix_list (pv 4) pe_int (fun _ _ => rfl)) (pa_cons (pe_ix ix_list (pv 4) pe_int (fun _ _ => rfl)) pa_nil)))) (pv 8) (nomark _))))) (pss_one (ps_ret pe_bl)) pss_nil)
      (pss_cons (ps_set (i := 10) sc_law.nd rfl (Or.inl rfl) (pe_c (c_distance T) hr (by decide) rfl (pa_cons (pv 2) (pa_cons (pe_ix ix_list (pv 4) pe_int (fun _ _ => rfl)) (pa_cons (pe_ix ix_list (pv 4) pe_int (fun _ _ => rfl)) pa_nil)))))
      (pss_cons (ps_set (i := 11) sc_law.nd rfl (Or.inl rfl) (pe_c (c_distance T) hr (by decide) rfl (pa_cons (pv 2) (pa_cons (pe_ix ix_list (pv 4) pe_int (fun _ _ => rfl)) (pa_cons (pe_ix ix_list (pv 4) pe_int (fun _ _ => rfl)) pa_nil)))))
      (pss_cons (ps_if (PW.pt (pw_or (pt_cmpR op_gt (pv 8) (pe_op op_add (pv 10) (pv 11)) (nomark _)) (pw_or1 (pt_cmpR op_ne (pe_cmpR op_eq (pv 8) (pe_op op_add (pv 10) (pv 11)) (nomark _)) (pe_cmpR (op_inT (u65_of hr)) (pe_ix ix_list (pv 9) pe_int (fun _ _ => rfl)) (pe_c (c_way T) hr (by decide) rfl (pa_cons (pv 2) (pa_cons (pe_ix ix_list (pv 4) pe_int (fun _ _ => rfl)) (pa_cons (pe_ix ix_list (pv 4) pe_int (fun _ _ => rfl)) pa_nil)))) (by rfl)) (nomark _))))) (pss_one (ps_ret pe_bl)) pss_nil)
      (pss_cons (ps_set (i := 12) sc_law.nd rfl (Or.inl rfl) (pe_c (c_middle T) hr (by decide) rfl (pa_cons (pv 2) (pa_cons (pe_ix ix_list (pv 4) pe_int (fun _ _ => rfl)) (pa_cons (pe_ix ix_list (pv 4) pe_int (fun _ _ => rfl)) (pa_cons (pe_ix ix_list (pv 4) pe_int (fun _ _ => rfl)) pa_nil))))))
      (pss_cons (ps_for PassesOwn.never rfl (pi_range1 (by rfl) T.m_range (pa_cons pe_int pa_nil)) (pg_name (i := 3) sc_law.nd rfl (Or.inl rfl)) (pss_one (ps_if (pt_cmpR (op_notInT (u65_of hr)) (pv 12) (pe_c (c_way T) hr (by decide) rfl (pa_cons (pv 2) (pa_cons (pe_ix ix_list (pv 4) (pv 3) (fun _ _ => rfl)) (pa_cons (pe_ix ix_list (pv 4) (pe_op op_mod (pe_callTy call_int1 (by rfl) T.m_int (by decide +kernel) (pa_cons (pe_op op_add (pv 3) pe_int) pa_nil)) pe_int) (fun _ _ => rfl)) pa_nil)))) (by rfl)) (pss_one (ps_ret pe_bl)) pss_nil)))
      (pss_one (ps_ret (pe_cmpR op_eq (pe_callB call_len_seq (by rfl) T.m_len (by decide +kernel) (pa_cons (pe_c (c_way T) hr (by decide) rfl (pa_cons (pv 2) (pa_cons (pe_ix ix_list (pv 4) pe_int (fun _ _ => rfl)) (pa_cons (pe_ix ix_list (pv 4) pe_int (fun _ _ => rfl)) pa_nil)))) pa_nil)) (pe_op op_add (pv 8) pe_int) (nomark _))))))))))))))))))), ?_⟩
    rw [show L2.start N_law [.ref a] = [some (.ref a), none, none, none, none, none, none, none, none, none, none, none, none, none] from rfl]
    refine ⟨_, rfl, a, cs, rfl, ha, hc, fun b ns H1 s1 hb hl hS => ?_⟩
    simp only [List.set_cons_succ, List.set_cons_zero]
    have hat : ∀ j : Nat, j < 50 → (ns.map V.int)[j]? = some (.int (ns.getD j 0)) := fun j hj => by
      rw [List.getElem?_map, List.getD_eq_getElem?_getD, List.getElem?_eq_getElem (by omega)]
      rfl
    refine ⟨_, rfl, b, _, 0, _, rfl, rfl, hb, atI_nat (j := 0) (hat 0 (by decide)), _, rfl, fun p H2 hp s2 => ?_⟩
    simp only [List.set_cons_succ, List.set_cons_zero]
    have hb2 := s2.seq hb
    have p3 := (isP_rng hp).1
    refine ⟨3, rfl, by decide, by decide, fun D nD => lc_map walk_range nD (by show 3 < sizeLine; decide) (fun j y H => ∃ ms, IsTI K y ms H ∧ ms.length ≤ 5 ∧ IsW p ms) (fun _ _ => Mono.ex fun _ => mono_ti.and Mono.pure) (fun _ _ => trivial) (fun j x H3 H' hj s3 hy => ?_) (fun H3 ys s3 e3 el hR => ?_) gm_name⟩
    · obtain ⟨rfl, rfl⟩ := hy
      have hj3 : j < 3 := hj
      refine ⟨rfl, fun Qk kq => ?_⟩
      have h0 := Int.emod_nonneg (ns.getD (1 + j) 0) (b := 6) (by decide)
      have h1 := Int.emod_lt_of_pos (ns.getD (1 + j) 0) (b := 6) (by decide)
      refine ⟨_, rfl, _, rfl, 10, _, rfl, rfl, .inl ⟨by decide, by decide⟩, 10, _, rfl, rfl, ?_⟩
      refine ⟨_, rfl, _, rfl, 1, _, rfl, rfl, b, _, ((1 + j : Nat) : Int), .int (ns.getD (1 + j) 0), rfl, ?_, s3.seq hb2, atI_nat (hat (1 + j) (by omega)), .inl ⟨_, rfl, _, 6, rfl, rfl, by show (0 : Int) < 6; decide, _, rfl, ?_⟩⟩
      · show V.int (1 + (0 + (j : Int))) = V.int ((1 + j : Nat) : Int)
        congr 1
        omega
      · refine ⟨b, ns, 10 + 10 * j, (ns.getD (1 + j) 0 % 6).toNat, p, ?_, s3.seq hb2, by omega, by omega, hp, fun v ms H4 s4 hv hml hw => kq v H4 s4 ⟨ms, hv.ti, by omega, hw⟩⟩
        show [V.ref b, V.int (10 + 10 * (0 + (j : Int))), V.int (ns.getD (1 + j) 0 % 6), V.int p] = _
        rw [show (10 : Int) + 10 * (0 + (j : Int)) = ((10 + 10 * j : Nat) : Int) by omega, show ns.getD (1 + j) 0 % 6 = (((ns.getD (1 + j) 0 % 6).toNat : Nat) : Int) by omega]
        rfl
    · obtain ⟨x0, x1, x2, rfl⟩ : ∃ x0 x1 x2, ys = [x0, x1, x2] := by
        match ys, el with
        | [x0, x1, x2], _ => exact ⟨x0, x1, x2, rfl⟩
      obtain ⟨m0, t0, l0, w0⟩ := hR 0 x0 rfl
      obtain ⟨m1, t1, l1, w1⟩ := hR 1 x1 rfl
      obtain ⟨m2, t2, l2, w2⟩ := hR 2 x2 rfl
      have hb3 := s3.seq hb2
      simp only [List.set_cons_succ, List.set_cons_zero]
      refine ⟨fun σ H => ∃ q3 y2 n2, σ = [some (.ref a), some (.ref b), some (.int p), q3, some (.ref D), none, none, none, none, none, none, none, none, none] ∧ W3 K p D x0 x1 y2 m0 m1 n2 H, ?_, ?_⟩
      · refine ⟨_, rfl, b, _, 4, _, rfl, rfl, hb3, atI_nat (j := 4) (hat 4 (by decide)), .inl ⟨_, rfl, _, 3, rfl, rfl, by show (0 : Int) < 3; decide, rfl, _, rfl, ?_⟩⟩
        by_cases c : V.int (ns.getD 4 0 % 3) = V.int 1
        · rw [decide_eq_true c]
          refine iteT ?_
          refine ⟨_, rfl, D, _, 0, _, rfl, rfl, SqL.of e3, atI_nat (j := 0) rfl, 2, rfl, ?_⟩
          refine slT t0 (cutV0 m0 2) fun u0 H4 s4 hu0 => ?_
          have e4 := s4 _ _ e3
          refine ⟨_, rfl, D, _, 1, _, rfl, rfl, SqL.of e4, atI_nat (j := 1) rfl, 1, rfl, ?_⟩
          refine slT (t1.same s4) (cutV0 m1 1) fun u1 H5 s5 hu1 => ?_
          refine catT (hu0.same s5) hu1 (by rw [List.length_take, List.length_take]; omega) fun z H6 s6 hz => ?_
          have s36 := (s4.trans s5).trans s6
          have e6 := s36 _ _ e3
          refine ⟨_, rfl, D, _, 2, 2, rfl, rfl, e6, rfl, _, z, m0.take 2 ++ m1.take 1, rfl, ?_⟩
          refine ⟨upd_same, ⟨(t0.same s36).put e6, w0, by omega⟩, ⟨(t1.same s36).put e6, w1, by omega⟩, ⟨hz.put e6, fun n hn => ?_, by rw [List.length_append, List.length_take, List.length_take]; omega⟩, l0, l1⟩
          rcases List.mem_append.mp hn with h | h
          · exact w0 n (List.mem_of_mem_take h)
          · exact w1 n (List.mem_of_mem_take h)
        · rw [decide_eq_false c]
          exact iteF ⟨_, _, _, rfl, ⟨e3, ⟨t0, w0, by omega⟩, ⟨t1, w1, by omega⟩, ⟨t2, w2, by omega⟩, l0, l1⟩⟩
      · rintro σ H6 ⟨q3, y2, n2, rfl, hW⟩
        clear hR e3 el t0 t1 t2 w0 w1 w2 l0 l1 l2 hb3 hb2 hb hat
        obtain ⟨sa, ua, Da⟩ := redL_ok hp hW.w0.w
        obtain ⟨sb, ub, Db⟩ := redL_ok hp hW.w1.w
        obtain ⟨E1, d, wz, eb1, eb2, eb3, eb4, eb5, eb6, eb7⟩ := between hp Da Db
        have hE : E1 ≤ 10 := by have := hW.l0; have := hW.l1; omega
        have hd : d ≤ 10 := by have := hW.l0; have := hW.l1; omega
        change (d : Int) = distI (redI p m0) (redI p m1) at eb5
        -- the number
        refine ⟨_, rfl, _, rfl, D, _, 0, _, rfl, rfl, SqL.of hW.e, atI_nat (j := 0) rfl, p, x0, m0, rfl, hp, hW.w0.ti, hW.w0.w, hW.w0.len, fun z0 H7 s7 hz0 => ?_⟩
        refine ⟨z0, _, rfl, hz0, fun z1 H8 s8 hz1 => ?_⟩
        have s68 := s7.trans s8
        have hW8 := hW.same s68
        refine ⟨_, rfl, _, rfl, D, _, 1, _, rfl, rfl, SqL.of hW8.e, atI_nat (j := 1) rfl, p, x1, m1, rfl, hp, hW8.w1.ti, hW8.w1.w, hW8.w1.len, fun z2 H9 s9 hz2 => ?_⟩
        have bA : Bs 20 (cj (prodW p m0)) := bs_cj (bs_of_nrm (Da.isN hp) (by rw [Da.norm hp]; exact pow_lt38 hp hW.w0.len))
        refine ⟨z1, z2, _, _, rfl, hz1.same s9, hz2, bA, fun z3 H10 s10 hz3 => ?_⟩
        rw [eb1] at hz3
        have s610 := (s68.trans s9).trans s10
        have hW10 := hW.same s610
        simp only [List.set_cons_succ, List.set_cons_zero]
        refine ⟨20, rfl, by decide, by decide, for_range (n := 20) (fun i σ H => ∃ q5 z q6 q7, σ = [some (.ref a), some (.ref b), some (.int p), q5, some (.ref D), some z, q6, q7, none, none, none, none, none, none] ∧ Same H10 H ∧ IsQ K z (scl (p ^ (E1 - i)) wz) H) ⟨_, _, _, _, rfl, Same.refl _, hz3⟩ (fun i σ H11 hi h11 => ?_) (fun σ H11 h11 => ?_)⟩
        · obtain ⟨q5, z, q6, q7, rfl, s11, hz⟩ := h11
          simp only [List.set_cons_succ, List.set_cons_zero]
          refine ⟨_, rfl, _, rfl, z, p, _, rfl, hp, hz, scl_isN _ eb2, fun hdv y H12 s12 hy => ?_, fun hdv H12 s12 => ?_⟩
          · simp only [List.set_cons_succ, List.set_cons_zero]
            obtain ⟨ay, rfl, hay⟩ := id hy
            have hiE : i < E1 := by
              rcases Nat.lt_or_ge i E1 with h | h
              · exact h
              · rw [show E1 - i = 0 by omega, Int.pow_zero, scl_one] at hdv
                exact absurd hdv eb3
            have e0 : E1 - i = (E1 - (i + 1)) + 1 := by omega
            have ed : divQ (scl (p ^ (E1 - i)) wz) p = scl (p ^ (E1 - (i + 1))) wz := by
              rw [e0, Int.pow_succ, Int.mul_comm, ← scl_scl, divQ_scl (by omega)]
            rw [ed] at hy
            refine ⟨_, rfl, rfl, _, rfl, ?_⟩
            rw [decide_eq_false (show ¬ V.ref ay = V.non from fun e => nomatch e)]
            exact iteT ⟨_, rfl, _, _, _, _, rfl, s11.trans s12, hy⟩
          · simp only [List.set_cons_succ, List.set_cons_zero]
            have hiE : E1 ≤ i := by
              rcases Nat.lt_or_ge i E1 with h | h
              · exfalso
                apply hdv
                rw [show E1 - i = (E1 - (i + 1)) + 1 by omega, Int.pow_succ]
                exact Dv.scl _ (Int.dvd_mul_left _ _)
              · exact h
            refine ⟨_, rfl, rfl, _, rfl, ?_⟩
            rw [decide_eq_true (show V.non = V.non from rfl)]
            refine iteF ⟨_, _, _, _, rfl, s11.trans s12, ?_⟩
            rw [show E1 - (i + 1) = E1 - i by omega]
            exact hz.same s12
        · obtain ⟨q5, z, q6, q7, rfl, s11, hz⟩ := h11
          rw [show E1 - 20 = 0 by omega, Int.pow_zero, scl_one] at hz
          have hW11 := hW10.same s11
          clear hz3 hW10 hW8 hz0 hz1 hz2
          -- the distance
          refine ⟨_, rfl, _, rfl, D, _, 0, _, rfl, rfl, SqL.of hW11.e, atI_nat (j := 0) rfl, _, rfl, D, _, 1, _, rfl, rfl, SqL.of hW11.e, atI_nat (j := 1) rfl, p, x0, x1, m0, m1, rfl, hp, hW11.w0, hW11.w1, fun H12 s12 => ?_⟩
          simp only [List.set_cons_succ, List.set_cons_zero]
          have hz12 := hz.same s12
          have hW12 := hW11.same s12
          have bW : Bs 60 wz := (bs_of_nrm eb2 (by rw [eb4]; exact pow_lt38 hp hd)).mono (by decide)
          refine ⟨_, rfl, _, rfl, _, rfl, z, wz, rfl, hz12, bW, fun H13 s13 => ?_⟩
          rw [eb4]
          refine ⟨p, d, rfl, hp, by omega, fun H14 s14 => ?_⟩
          rw [← eb5]
          refine ⟨rfl, _, rfl, ?_⟩
          rw [decide_eq_true (rfl : V.int (d : Int) = V.int (d : Int))]
          refine iteF ?_
          rw [eb5]
          have hW14 := (hW12.same s13).same s14
          -- the rows
          refine ⟨_, rfl, D, rfl, ⟨_, SqL.of hW14.e⟩, fun D9 nD9 => lc_rel (xs := [m0, m1, n2]) (β := List Int) walk_list (fun H s => s.seq (SqL.of hW14.e)) (fun u n H => Wd K p u n H) (fun u n H H' s h => h.same s) (.cons hW14.w0 (.cons hW14.w1 (.cons hW14.w2 .nil))) (fun y r H => IsTI K y r H) (fun y r => mono_ti) (redI p) nD9 (by show 3 < sizeLine; decide) (fun y m H15 Qk hm s15 hr5 k5 => ?_) (fun H15 ys s15 e15 hP15 => ?_)⟩
          · refine ⟨_, rfl, _, rfl, p, y, m, rfl, hp, hr5, fun t x yy zz H16 s16 ht hyy => ?_⟩
            exact ⟨t, _, 1, yy, rfl, rfl, ht, atI_nat (j := 1) rfl, k5 _ _ s16 hyy⟩
          · obtain ⟨r0, r1, r2, rfl, g0, g1, g2⟩ : ∃ r0 r1 r2, ys = [r0, r1, r2] ∧ IsTI K r0 (redI p m0) H15 ∧ IsTI K r1 (redI p m1) H15 ∧ IsTI K r2 (redI p n2) H15 := by
              match ys, hP15 with
              | [r0, r1, r2], .cons h0 (.cons h1 (.cons h2 .nil)) => exact ⟨r0, r1, r2, rfl, h0, h1, h2⟩
            have hW15 := hW14.same s15
            simp only [List.set_cons_succ, List.set_cons_zero]
            clear hz hz12 hW14 hW12 hW11 hP15
            -- 0 and the same word
            refine ⟨_, rfl, rfl, _, rfl, D9, _, 0, _, rfl, rfl, SqL.of e15, atI_nat (j := 0) rfl, _, rfl, D9, _, 1, _, rfl, rfl, SqL.of e15, atI_nat (j := 1) rfl, ?_⟩
            have q1 : decide (V.int (distI (redI p m0) (redI p m1)) = V.int 0) = decide ((redI p m0) = (redI p m1)) := by
              rw [decV]
              exact decide_eq_decide.mpr (dist_zero _ _)
            refine ⟨_, _, g0, g1, rfl, _, rfl, ?_⟩
            rw [q1, decide_eq_true (rfl : V.bl (decide ((redI p m0) = (redI p m1))) = V.bl (decide ((redI p m0) = (redI p m1))))]
            refine iteF ?_
            refine ⟨_, rfl, _, rfl, D, _, 1, _, rfl, rfl, SqL.of hW15.e, atI_nat (j := 1) rfl, _, rfl, D, _, 0, _, rfl, rfl, SqL.of hW15.e, atI_nat (j := 0) rfl, p, x1, x0, m1, m0, rfl, hp, hW15.w1, hW15.w0, fun H16 s16 => ?_⟩
            rw [dist_comm (redI p m1) (redI p m0)]
            refine ⟨_, rfl, rfl, _, rfl, ?_⟩
            rw [decide_eq_true (rfl : V.int (distI (redI p m0) (redI p m1)) = V.int (distI (redI p m0) (redI p m1)))]
            refine iteF ?_
            have hW16 := hW15.same s16
            -- the third place
            refine ⟨_, rfl, _, rfl, D, _, 0, _, rfl, rfl, SqL.of hW16.e, atI_nat (j := 0) rfl, _, rfl, D, _, 2, _, rfl, rfl, SqL.of hW16.e, atI_nat (j := 2) rfl, p, x0, y2, m0, n2, rfl, hp, hW16.w0, hW16.w2, fun H17 s17 => ?_⟩
            simp only [List.set_cons_succ, List.set_cons_zero]
            have hW17 := hW16.same s17
            refine ⟨_, rfl, _, rfl, D, _, 2, _, rfl, rfl, SqL.of hW17.e, atI_nat (j := 2) rfl, _, rfl, D, _, 1, _, rfl, rfl, SqL.of hW17.e, atI_nat (j := 1) rfl, p, y2, x1, n2, m1, rfl, hp, hW17.w2, hW17.w1, fun H18 s18 => ?_⟩
            simp only [List.set_cons_succ, List.set_cons_zero]
            have hW18 := hW17.same s18
            have s1518 := (s16.trans s17).trans s18
            have e18 := s1518 _ _ e15
            have g218 := g2.same s1518
            have tri := dist_tri (redI p m0) (redI p m1) (redI p n2)
            refine ⟨_, rfl, _, rfl, _, rfl, _, _, rfl, rfl, _, _, rfl, rfl, _, rfl, ?_⟩
            rw [decide_eq_false (show ¬ distI (redI p m0) (redI p n2) + distI (redI p n2) (redI p m1) < distI (redI p m0) (redI p m1) by omega)]
            refine iteF ?_
            have q2 : decide (V.int (distI (redI p m0) (redI p m1)) = V.int (distI (redI p m0) (redI p n2) + distI (redI p n2) (redI p m1))) = decide ((redI p n2) ∈ wayL (redI p m0) (redI p m1)) := by
              rw [decV]
              exact decide_eq_decide.mpr ((dist_betw _ _ _).trans (way_mem _ _ _).symm)
            refine ⟨_, rfl, _, rfl, _, rfl, _, _, rfl, rfl, rfl, _, rfl, D9, _, 2, _, rfl, rfl, SqL.of e18, atI_nat (j := 2) rfl, _, rfl, _, rfl, D, _, 0, _, rfl, rfl, SqL.of hW18.e, atI_nat (j := 0) rfl, _, rfl, D, _, 1, _, rfl, rfl, SqL.of hW18.e, atI_nat (j := 1) rfl, p, x0, x1, m0, m1, rfl, hp, hW18.w0, hW18.w1, fun yw H19 s19 hyw => ?_⟩
            refine ⟨_, _, g218.same s19, hyw, rfl, _, rfl, ?_⟩
            rw [q2, decide_eq_true (rfl : V.bl (decide ((redI p n2) ∈ wayL (redI p m0) (redI p m1))) = V.bl (decide ((redI p n2) ∈ wayL (redI p m0) (redI p m1))))]
            refine iteF ?_
            have hW19 := hW18.same s19
            -- the middle
            refine ⟨_, rfl, _, rfl, D, _, 0, _, rfl, rfl, SqL.of hW19.e, atI_nat (j := 0) rfl, _, rfl, D, _, 1, _, rfl, rfl, SqL.of hW19.e, atI_nat (j := 1) rfl, _, rfl, D, _, 2, _, rfl, rfl, SqL.of hW19.e, atI_nat (j := 2) rfl, p, x0, x1, y2, m0, m1, n2, rfl, hp, hW19.w0, hW19.w1, hW19.w2, fun ym mm H20 hmm hmx s20 hym => ?_⟩
            simp only [List.set_cons_succ, List.set_cons_zero]
            have hW20 := hW19.same s20
            obtain ⟨o1, o2, o3⟩ := mid_ok hmm hmx
            refine ⟨3, rfl, by decide, by decide, for_range (n := 3) (fun i σ H => ∃ q, σ = [some (.ref a), some (.ref b), some (.int p), q, some (.ref D), some z, q6, q7, some (.int (distI (redI p m0) (redI p m1))), some (.ref D9), some (.int (distI (redI p m0) (redI p n2))), some (.int (distI (redI p n2) (redI p m1))), some ym, none] ∧ Same H20 H) ⟨_, rfl, Same.refl _⟩ (fun i σ H21 hi h21 => ?_) (fun σ H21 h21 => ?_)⟩
            · obtain ⟨q, rfl, s21⟩ := h21
              have hW21 := hW20.same s21
              rcases (by omega : i = 0 ∨ i = 1 ∨ i = 2) with rfl | rfl | rfl
              · refine ⟨_, rfl, _, rfl, _, rfl, _, rfl, D, _, _, x0, rfl, rfl, SqL.of hW21.e, atI_nat (j := 0) rfl, _, rfl, _, rfl, _, 1, rfl, rfl, .inl ⟨_, rfl, _, 3, rfl, rfl, by show (0 : Int) < 3; decide, D, _, _, x1, rfl, rfl, SqL.of hW21.e, atI_nat (j := 1) rfl, ?_⟩⟩
                refine ⟨p, x0, x1, m0, m1, rfl, hp, hW21.w0, hW21.w1, fun yw H22 s22 hyw => ?_⟩
                refine ⟨_, _, (hym.same s21).same s22, hyw, _, rfl, ?_⟩
                rw [decide_eq_true o1]
                exact iteF ⟨_, rfl, s21.trans s22⟩
              · refine ⟨_, rfl, _, rfl, _, rfl, _, rfl, D, _, _, x1, rfl, rfl, SqL.of hW21.e, atI_nat (j := 1) rfl, _, rfl, _, rfl, _, 1, rfl, rfl, .inl ⟨_, rfl, _, 3, rfl, rfl, by show (0 : Int) < 3; decide, D, _, _, y2, rfl, rfl, SqL.of hW21.e, atI_nat (j := 2) rfl, ?_⟩⟩
                refine ⟨p, x1, y2, m1, n2, rfl, hp, hW21.w1, hW21.w2, fun yw H22 s22 hyw => ?_⟩
                refine ⟨_, _, (hym.same s21).same s22, hyw, _, rfl, ?_⟩
                rw [decide_eq_true o2]
                exact iteF ⟨_, rfl, s21.trans s22⟩
              · refine ⟨_, rfl, _, rfl, _, rfl, _, rfl, D, _, _, y2, rfl, rfl, SqL.of hW21.e, atI_nat (j := 2) rfl, _, rfl, _, rfl, _, 1, rfl, rfl, .inl ⟨_, rfl, _, 3, rfl, rfl, by show (0 : Int) < 3; decide, D, _, _, x0, rfl, rfl, SqL.of hW21.e, atI_nat (j := 0) rfl, ?_⟩⟩
                refine ⟨p, y2, x0, n2, m0, rfl, hp, hW21.w2, hW21.w0, fun yw H22 s22 hyw => ?_⟩
                refine ⟨_, _, (hym.same s21).same s22, hyw, _, rfl, ?_⟩
                rw [decide_eq_true o3]
                exact iteF ⟨_, rfl, s21.trans s22⟩
            · obtain ⟨q, rfl, s21⟩ := h21
              have hW21 := hW20.same s21
              refine ⟨_, rfl, _, rfl, D, _, 0, _, rfl, rfl, SqL.of hW21.e, atI_nat (j := 0) rfl, _, rfl, D, _, 1, _, rfl, rfl, SqL.of hW21.e, atI_nat (j := 1) rfl, p, x0, x1, m0, m1, rfl, hp, hW21.w0, hW21.w1, fun yw H22 s22 hyw => ?_⟩
              obtain ⟨aw, vw, rfl, hSw, hPw⟩ := hyw
              have hlw := hPw.length
              have hwl := way_len (redI p m0) (redI p m1)
              refine ⟨aw, _, rfl, .inl hSw, _, rfl, _, _, rfl, rfl, rfl, ?_⟩
              rw [hlw, hwl, decide_eq_true rfl]
              exact k H22
end
end TPW
/-! what the top has written -/
namespace TPW
open PySem PySem.Spec PyProof.Rows L2 TP
open C8 (Cal Def cal0 pe_c fnScope fnBody fnArgs fnScope_by pe_gc)
/-- a def of the top -/
structure DF (K : PySem.W.Frag) (x : Str) (st : Stmt) : Prop where
  ex : ∃ (f : Addr) (oc : Value) (od : Option Addr) (kV doc pm : Value) (an : Option Addr) (cdv ct : Value) (osl : Array (Option Value)),
    PySem.W.nsIn K mainGlobals x = some (some (.ref f)) ∧ K.lookup f = some ⟨oc, od, .func (PySem.W.fnOf x x (fnArgs st) (fnBody st) (fnScope st) .none kV doc pm an cdv ct), osl⟩ ∧ PySem.W.codeIn K cdv x = true ∧ PySem.W.keepIn K (.ref f) = true
theorem DF.of {K : PySem.W.Frag} {x : Str} {st : Stmt} {f : Addr} {oc : Value} {od : Option Addr} {kV doc pm : Value} {an : Option Addr} {cdv ct : Value} {osl : Array (Option Value)}
    (a : PySem.W.nsIn K mainGlobals x = some (some (.ref f))) (l : K.lookup f = some ⟨oc, od, .func (PySem.W.fnOf x x (fnArgs st) (fnBody st) (fnScope st) .none kV doc pm an cdv ct), osl⟩) (c : PySem.W.codeIn K cdv x = true) (k : PySem.W.keepIn K (.ref f) = true) : DF K x st :=
  ⟨f, oc, od, kV, doc, pm, an, cdv, ct, osl, a, l, c, k⟩
theorem DF.db {K : PySem.W.Frag} {mg : Str → Option Value} {h : Heap} {x : Str} {st : Stmt} {ps : List Str} (D : DF K x st) (X : K.In h) (G : h.Ns mainGlobals mg)
    (hb : ∀ (kV doc pm : Value) (an : Option Addr) (cdv ct : Value) (us : List Value), us.length = ps.length → bindArgs (PySem.W.fnOf x x (fnArgs st) (fnBody st) (fnScope st) .none kV doc pm an cdv ct) ⟨us, []⟩ = pure (ps.zip us)) : DB K mg x st ps := by
  obtain ⟨f, oc, od, kV, doc, pm, an, cdv, ct, osl, a, l, c, k⟩ := D.ex
  have F : C8.Fun K x x st f (PySem.W.fnOf x x (fnArgs st) (fnBody st) (fnScope st) .none kV doc pm an cdv ct) := ⟨⟨oc, od, .none, kV, doc, pm, an, cdv, ct, osl, rfl, l, c⟩⟩
  exact ⟨⟨f, _, ⟨F, PySem.W.mg_of X G a, k⟩, F.binds rfl hb⟩⟩
theorem tup4 {K : PySem.W.Frag} {a : Addr} {dd : Option Addr} {n : Nat} {sl : Array (Option Value)} {i j k l : Int} {t0 t1 t2 t3 : Tok} (h : K.lookup a = some ⟨.type "tuple", dd, .seq #[.int i t0, .int j t1, .int k t2, .int l t3] n, sl⟩) (H : Hp) : SqT K H a ([.int i, .int j, .int k, .int l] : List V) :=
  .inr ⟨_, _, _, h, rfl, rfl, by show 4 ≤ sizeLine; decide, .cons ⟨_, rfl⟩ (.cons ⟨_, rfl⟩ (.cons ⟨_, rfl⟩ (.cons ⟨_, rfl⟩ .nil)))⟩
theorem top_mk {K : PySem.W.Frag} {h : Heap} {mg : Str → Option Value} (X : K.In h) (G : h.Ns mainGlobals mg)
    {a_ZERO_numbers : Addr} {dd_ZERO_numbers : Option Addr} {n_ZERO_numbers : Nat} {sl_ZERO_numbers : Array (Option Value)} {t0_ZERO_numbers t1_ZERO_numbers t2_ZERO_numbers t3_ZERO_numbers : Tok}
    {a_ZERO_dividing : Addr} {dd_ZERO_dividing : Option Addr} {n_ZERO_dividing : Nat} {sl_ZERO_dividing : Array (Option Value)} {t0_ZERO_dividing t1_ZERO_dividing t2_ZERO_dividing t3_ZERO_dividing : Tok}
    {a_ONE : Addr} {dd_ONE : Option Addr} {n_ONE : Nat} {sl_ONE : Array (Option Value)} {t0_ONE t1_ONE t2_ONE t3_ONE : Tok}
    {t_PARTS t_MOST : Tok}
    (d_is_number : DF K "is_number" s_is_number)
    (d_check_number : DF K "check_number" s_check_number)
    (d_check_not_zero : DF K "check_not_zero" s_check_not_zero)
    (d_conjugate : DF K "conjugate" s_conjugate)
    (d_norm : DF K "norm" s_norm)
    (d_less : DF K "less" s_less)
    (d_product : DF K "product" s_product)
    (d_product_of : DF K "product_of" s_product_of)
    (d_units : DF K "units" s_units)
    (d_is_unit : DF K "is_unit" s_is_unit)
    (d_associates : DF K "associates" s_associates)
    (d_canonical : DF K "canonical" s_canonical)
    (d_content : DF K "content" s_content)
    (d_primitive_part : DF K "primitive_part" s_primitive_part)
    (d_distance_of : DF K "distance_of" s_distance_of)
    (d_nearest : DF K "nearest" s_nearest)
    (d_check_pair : DF K "check_pair" s_check_pair)
    (d_divided_left : DF K "divided_left" s_divided_left)
    (d_left_quotient : DF K "left_quotient" s_left_quotient)
    (d_steps_of : DF K "steps_of" s_steps_of)
    (d_check_some : DF K "check_some" s_check_some)
    (d_left_common : DF K "left_common" s_left_common)
    (d_check_prime : DF K "check_prime" s_check_prime)
    (d_numbers_of : DF K "numbers_of" s_numbers_of)
    (d_pairs_of : DF K "pairs_of" s_pairs_of)
    (d_letters : DF K "letters" s_letters)
    (d_check_word : DF K "check_word" s_check_word)
    (d_product_at : DF K "product_at" s_product_at)
    (d_power_of : DF K "power_of" s_power_of)
    (d_word_of : DF K "word_of" s_word_of)
    (d_reduced : DF K "reduced" s_reduced)
    (d_meeting : DF K "meeting" s_meeting)
    (d_distance : DF K "distance" s_distance)
    (d_middle : DF K "middle" s_middle)
    (d_way : DF K "way" s_way)
    (d_law_row : DF K "_law_row" s_law_row)
    (d_law_numbers : DF K "_law_numbers" s_law_numbers)
    (d_law_product : DF K "_law_product" s_law_product)
    (d_law_turned : DF K "_law_turned" s_law_turned)
    (d_law_norm : DF K "_law_norm" s_law_norm)
    (d_law_divided : DF K "_law_divided" s_law_divided)
    (d_law_word : DF K "_law_word" s_law_word)
    (d_law_prime : DF K "_law_prime" s_law_prime)
    (d_law_power : DF K "_law_power" s_law_power)
    (d_law : DF K "law" s_law)
    (m_len : PySem.W.nsIn K mainGlobals "len" = some none)
    (m_range : PySem.W.nsIn K mainGlobals "range" = some none)
    (m_zip : PySem.W.nsIn K mainGlobals "zip" = some none)
    (m_sum : PySem.W.nsIn K mainGlobals "sum" = some none)
    (m_tuple : PySem.W.nsIn K mainGlobals "tuple" = some none)
    (m_abs : PySem.W.nsIn K mainGlobals "abs" = some none)
    (m_int : PySem.W.nsIn K mainGlobals "int" = some none)
    (m_all : PySem.W.nsIn K mainGlobals "all" = some none)
    (m_any : PySem.W.nsIn K mainGlobals "any" = some none)
    (m_max : PySem.W.nsIn K mainGlobals "max" = some none)
    (m_sorted : PySem.W.nsIn K mainGlobals "sorted" = some none)
    (m_isinstance : PySem.W.nsIn K mainGlobals "isinstance" = some none)
    (m_bool : PySem.W.nsIn K mainGlobals "bool" = some none)
    (z_ZERO_numbers : PySem.W.nsIn K mainGlobals "ZERO_numbers" = some (some (.ref a_ZERO_numbers)))
    (l_ZERO_numbers : K.lookup a_ZERO_numbers = some ⟨.type "tuple", dd_ZERO_numbers, .seq #[.int 0 t0_ZERO_numbers, .int 0 t1_ZERO_numbers, .int 0 t2_ZERO_numbers, .int 0 t3_ZERO_numbers] n_ZERO_numbers, sl_ZERO_numbers⟩)
    (z_ZERO_dividing : PySem.W.nsIn K mainGlobals "ZERO_dividing" = some (some (.ref a_ZERO_dividing)))
    (l_ZERO_dividing : K.lookup a_ZERO_dividing = some ⟨.type "tuple", dd_ZERO_dividing, .seq #[.int 0 t0_ZERO_dividing, .int 0 t1_ZERO_dividing, .int 0 t2_ZERO_dividing, .int 0 t3_ZERO_dividing] n_ZERO_dividing, sl_ZERO_dividing⟩)
    (z_ONE : PySem.W.nsIn K mainGlobals "ONE" = some (some (.ref a_ONE)))
    (l_ONE : K.lookup a_ONE = some ⟨.type "tuple", dd_ONE, .seq #[.int 2 t0_ONE, .int 0 t1_ONE, .int 0 t2_ONE, .int 0 t3_ONE] n_ONE, sl_ONE⟩)
    (z_PARTS : PySem.W.nsIn K mainGlobals "PARTS" = some (some (.int 4 t_PARTS)))
    (z_MOST : PySem.W.nsIn K mainGlobals "MOST_PRIME" = some (some (.int 199 t_MOST)))
    (z_gcd : PySem.W.nsIn K mainGlobals "gcd" = some (some (.builtin "math.gcd")))
    (z_isqrt : PySem.W.nsIn K mainGlobals "isqrt" = some (some (.builtin "math.isqrt"))) : TopOk K mg where
  d_is_number := d_is_number.db X G fun _ _ _ _ _ _ us hl => match us, hl with | [_], _ => rfl
  d_check_number := d_check_number.db X G fun _ _ _ _ _ _ us hl => match us, hl with | [_], _ => rfl
  d_check_not_zero := d_check_not_zero.db X G fun _ _ _ _ _ _ us hl => match us, hl with | [_], _ => rfl
  d_conjugate := d_conjugate.db X G fun _ _ _ _ _ _ us hl => match us, hl with | [_], _ => rfl
  d_norm := d_norm.db X G fun _ _ _ _ _ _ us hl => match us, hl with | [_], _ => rfl
  d_less := d_less.db X G fun _ _ _ _ _ _ us hl => match us, hl with | [_, _], _ => rfl
  d_product := d_product.db X G fun _ _ _ _ _ _ us hl => match us, hl with | [_, _], _ => rfl
  d_product_of := d_product_of.db X G fun _ _ _ _ _ _ us hl => match us, hl with | [_], _ => rfl
  d_units := d_units.db X G fun _ _ _ _ _ _ us hl => match us, hl with | [], _ => rfl
  d_is_unit := d_is_unit.db X G fun _ _ _ _ _ _ us hl => match us, hl with | [_], _ => rfl
  d_associates := d_associates.db X G fun _ _ _ _ _ _ us hl => match us, hl with | [_], _ => rfl
  d_canonical := d_canonical.db X G fun _ _ _ _ _ _ us hl => match us, hl with | [_], _ => rfl
  d_content := d_content.db X G fun _ _ _ _ _ _ us hl => match us, hl with | [_], _ => rfl
  d_primitive_part := d_primitive_part.db X G fun _ _ _ _ _ _ us hl => match us, hl with | [_], _ => rfl
  d_distance_of := d_distance_of.db X G fun _ _ _ _ _ _ us hl => match us, hl with | [_, _, _], _ => rfl
  d_nearest := d_nearest.db X G fun _ _ _ _ _ _ us hl => match us, hl with | [_, _], _ => rfl
  d_check_pair := d_check_pair.db X G fun _ _ _ _ _ _ us hl => match us, hl with | [_, _], _ => rfl
  d_divided_left := d_divided_left.db X G fun _ _ _ _ _ _ us hl => match us, hl with | [_, _], _ => rfl
  d_left_quotient := d_left_quotient.db X G fun _ _ _ _ _ _ us hl => match us, hl with | [_, _], _ => rfl
  d_steps_of := d_steps_of.db X G fun _ _ _ _ _ _ us hl => match us, hl with | [_, _], _ => rfl
  d_check_some := d_check_some.db X G fun _ _ _ _ _ _ us hl => match us, hl with | [_], _ => rfl
  d_left_common := d_left_common.db X G fun _ _ _ _ _ _ us hl => match us, hl with | [_, _], _ => rfl
  d_check_prime := d_check_prime.db X G fun _ _ _ _ _ _ us hl => match us, hl with | [_], _ => rfl
  d_numbers_of := d_numbers_of.db X G fun _ _ _ _ _ _ us hl => match us, hl with | [_], _ => rfl
  d_pairs_of := d_pairs_of.db X G fun _ _ _ _ _ _ us hl => match us, hl with | [_, _], _ => rfl
  d_letters := d_letters.db X G fun _ _ _ _ _ _ us hl => match us, hl with | [_], _ => rfl
  d_check_word := d_check_word.db X G fun _ _ _ _ _ _ us hl => match us, hl with | [_, _], _ => rfl
  d_product_at := d_product_at.db X G fun _ _ _ _ _ _ us hl => match us, hl with | [_, _], _ => rfl
  d_power_of := d_power_of.db X G fun _ _ _ _ _ _ us hl => match us, hl with | [_, _], _ => rfl
  d_word_of := d_word_of.db X G fun _ _ _ _ _ _ us hl => match us, hl with | [_, _], _ => rfl
  d_reduced := d_reduced.db X G fun _ _ _ _ _ _ us hl => match us, hl with | [_, _], _ => rfl
  d_meeting := d_meeting.db X G fun _ _ _ _ _ _ us hl => match us, hl with | [_, _, _], _ => rfl
  d_distance := d_distance.db X G fun _ _ _ _ _ _ us hl => match us, hl with | [_, _, _], _ => rfl
  d_middle := d_middle.db X G fun _ _ _ _ _ _ us hl => match us, hl with | [_, _, _, _], _ => rfl
  d_way := d_way.db X G fun _ _ _ _ _ _ us hl => match us, hl with | [_, _, _], _ => rfl
  d_law_row := d_law_row.db X G fun _ _ _ _ _ _ us hl => match us, hl with | [_, _], _ => rfl
  d_law_numbers := d_law_numbers.db X G fun _ _ _ _ _ _ us hl => match us, hl with | [_, _], _ => rfl
  d_law_product := d_law_product.db X G fun _ _ _ _ _ _ us hl => match us, hl with | [_, _], _ => rfl
  d_law_turned := d_law_turned.db X G fun _ _ _ _ _ _ us hl => match us, hl with | [_], _ => rfl
  d_law_norm := d_law_norm.db X G fun _ _ _ _ _ _ us hl => match us, hl with | [_], _ => rfl
  d_law_divided := d_law_divided.db X G fun _ _ _ _ _ _ us hl => match us, hl with | [_, _], _ => rfl
  d_law_word := d_law_word.db X G fun _ _ _ _ _ _ us hl => match us, hl with | [_, _, _, _], _ => rfl
  d_law_prime := d_law_prime.db X G fun _ _ _ _ _ _ us hl => match us, hl with | [_], _ => rfl
  d_law_power := d_law_power.db X G fun _ _ _ _ _ _ us hl => match us, hl with | [_, _], _ => rfl
  d_law := d_law.db X G fun _ _ _ _ _ _ us hl => match us, hl with | [_], _ => rfl
  m_len := PySem.W.mg_none_of X G m_len
  m_range := PySem.W.mg_none_of X G m_range
  m_zip := PySem.W.mg_none_of X G m_zip
  m_sum := PySem.W.mg_none_of X G m_sum
  m_tuple := PySem.W.mg_none_of X G m_tuple
  m_abs := PySem.W.mg_none_of X G m_abs
  m_int := PySem.W.mg_none_of X G m_int
  m_all := PySem.W.mg_none_of X G m_all
  m_any := PySem.W.mg_none_of X G m_any
  m_max := PySem.W.mg_none_of X G m_max
  m_sorted := PySem.W.mg_none_of X G m_sorted
  m_isinstance := PySem.W.mg_none_of X G m_isinstance
  m_bool := PySem.W.mg_none_of X G m_bool
  g_ZERO_numbers := ⟨_, PySem.W.mg_of X G z_ZERO_numbers, fun H => tup4 l_ZERO_numbers H⟩
  g_ZERO_dividing := ⟨_, PySem.W.mg_of X G z_ZERO_dividing, fun H => tup4 l_ZERO_dividing H⟩
  g_ONE := ⟨_, PySem.W.mg_of X G z_ONE, fun H => tup4 l_ONE H⟩
  g_PARTS := ⟨_, PySem.W.mg_of X G z_PARTS⟩
  g_MOST_PRIME := ⟨_, PySem.W.mg_of X G z_MOST⟩
  g_gcd := PySem.W.mg_of X G z_gcd
  g_isqrt := PySem.W.mg_of X G z_isqrt
theorem all_mk {P : Program} {w : World} {K : PySem.W.Frag} {h : Heap} {mg : Str → Option Value} {fa : Addr} (X : K.In h) (G : h.Ns mainGlobals mg) (hfa : mg "law" = some (.ref fa)) (T : TopOk K mg) (D : DF K "law" s_law) :
    ∃ fd : FuncData, (∀ (s : Shared) (v : Value), BindsTo s fd ⟨[v], []⟩ [("_law_script", v)]) ∧ ∀ base : Heap, K.In base → base.Ns mainGlobals mg → FnOk P w K mg base C8.CX0 12 fa fd ["_law_script"] (spLaw K) := by
  obtain ⟨f, oc, od, kV, doc, pm, an, cdv, ct, osl, a, l, c, k⟩ := D.ex
  have e := hfa.symm.trans (PySem.W.mg_of X G a)
  cases e
  exact ⟨_, fun s v => .of_eq rfl, fun base _ _ => ok_law T ⟨⟨⟨oc, od, .none, kV, doc, pm, an, cdv, ct, osl, rfl, l, c⟩⟩, hfa, k⟩⟩
end TPW
open PySem PySem.W PyProof.Rows
set_option maxHeartbeats 0 in
theorem PySem.Challenge.cw_turnprimes_k76_whole_tree_holds : PySem.Challenge.rw_turnprimes_k76_whole_tree.Holds := by
  w_on; o_law; k_head; (case hw => w_witness2)
  k_fill
  refine L2.walk_ofB (l := PySem.Challenge.rw_turnprimes_k76_whole_tree) (n := 63) (k := 12) (x := "_law_script") (CX := fun _ => C8.CX0) (sp := fun w => TPW.spLaw _) rfl (by decide) rfl ⟨rfl, by decide, by decide⟩ (fun w h Y => PySem.W.kIn_of Y) ?F (fun _ _ a ns hl _ _ hS => ⟨a, ns, rfl, hS, hl, fun _ => rfl⟩) (fun _ _ _ _ _ h => h)
  case F =>
    intro w mg fa h KX G hmg
    refine' TPW.all_mk KX G hmg (TPW.top_mk KX G ?d_is_number ?d_check_number ?d_check_not_zero ?d_conjugate ?d_norm ?d_less ?d_product ?d_product_of ?d_units ?d_is_unit ?d_associates ?d_canonical ?d_content ?d_primitive_part ?d_distance_of ?d_nearest ?d_check_pair ?d_divided_left ?d_left_quotient ?d_steps_of ?d_check_some ?d_left_common ?d_check_prime ?d_numbers_of ?d_pairs_of ?d_letters ?d_check_word ?d_product_at ?d_power_of ?d_word_of ?d_reduced ?d_meeting ?d_distance ?d_middle ?d_way ?d_law_row ?d_law_numbers ?d_law_product ?d_law_turned ?d_law_norm ?d_law_divided ?d_law_word ?d_law_prime ?d_law_power ?d_law ?m_len ?m_range ?m_zip ?m_sum ?m_tuple ?m_abs ?m_int ?m_all ?m_any ?m_max ?m_sorted ?m_isinstance ?m_bool ?z_ZERO_numbers ?l_ZERO_numbers ?z_ZERO_dividing ?l_ZERO_dividing ?z_ONE ?l_ONE ?z_PARTS ?z_MOST ?z_gcd ?z_isqrt) ?d_law
    (case d_is_number => (refine' TPW.DF.of ?a ?l ?c ?k; (case a => k_is); (case l => k_is); (case c => k_is); (case k => k_is)))
    (case d_check_number => (refine' TPW.DF.of ?a ?l ?c ?k; (case a => k_is); (case l => k_is); (case c => k_is); (case k => k_is)))
    (case d_check_not_zero => (refine' TPW.DF.of ?a ?l ?c ?k; (case a => k_is); (case l => k_is); (case c => k_is); (case k => k_is)))
    (case d_conjugate => (refine' TPW.DF.of ?a ?l ?c ?k; (case a => k_is); (case l => k_is); (case c => k_is); (case k => k_is)))
    (case d_norm => (refine' TPW.DF.of ?a ?l ?c ?k; (case a => k_is); (case l => k_is); (case c => k_is); (case k => k_is)))
    (case d_less => (refine' TPW.DF.of ?a ?l ?c ?k; (case a => k_is); (case l => k_is); (case c => k_is); (case k => k_is)))
    (case d_product => (refine' TPW.DF.of ?a ?l ?c ?k; (case a => k_is); (case l => k_is); (case c => k_is); (case k => k_is)))
    (case d_product_of => (refine' TPW.DF.of ?a ?l ?c ?k; (case a => k_is); (case l => k_is); (case c => k_is); (case k => k_is)))
    (case d_units => (refine' TPW.DF.of ?a ?l ?c ?k; (case a => k_is); (case l => k_is); (case c => k_is); (case k => k_is)))
    (case d_is_unit => (refine' TPW.DF.of ?a ?l ?c ?k; (case a => k_is); (case l => k_is); (case c => k_is); (case k => k_is)))
    (case d_associates => (refine' TPW.DF.of ?a ?l ?c ?k; (case a => k_is); (case l => k_is); (case c => k_is); (case k => k_is)))
    (case d_canonical => (refine' TPW.DF.of ?a ?l ?c ?k; (case a => k_is); (case l => k_is); (case c => k_is); (case k => k_is)))
    (case d_content => (refine' TPW.DF.of ?a ?l ?c ?k; (case a => k_is); (case l => k_is); (case c => k_is); (case k => k_is)))
    (case d_primitive_part => (refine' TPW.DF.of ?a ?l ?c ?k; (case a => k_is); (case l => k_is); (case c => k_is); (case k => k_is)))
    (case d_distance_of => (refine' TPW.DF.of ?a ?l ?c ?k; (case a => k_is); (case l => k_is); (case c => k_is); (case k => k_is)))
    (case d_nearest => (refine' TPW.DF.of ?a ?l ?c ?k; (case a => k_is); (case l => k_is); (case c => k_is); (case k => k_is)))
    (case d_check_pair => (refine' TPW.DF.of ?a ?l ?c ?k; (case a => k_is); (case l => k_is); (case c => k_is); (case k => k_is)))
    (case d_divided_left => (refine' TPW.DF.of ?a ?l ?c ?k; (case a => k_is); (case l => k_is); (case c => k_is); (case k => k_is)))
    (case d_left_quotient => (refine' TPW.DF.of ?a ?l ?c ?k; (case a => k_is); (case l => k_is); (case c => k_is); (case k => k_is)))
    (case d_steps_of => (refine' TPW.DF.of ?a ?l ?c ?k; (case a => k_is); (case l => k_is); (case c => k_is); (case k => k_is)))
    (case d_check_some => (refine' TPW.DF.of ?a ?l ?c ?k; (case a => k_is); (case l => k_is); (case c => k_is); (case k => k_is)))
    (case d_left_common => (refine' TPW.DF.of ?a ?l ?c ?k; (case a => k_is); (case l => k_is); (case c => k_is); (case k => k_is)))
    (case d_check_prime => (refine' TPW.DF.of ?a ?l ?c ?k; (case a => k_is); (case l => k_is); (case c => k_is); (case k => k_is)))
    (case d_numbers_of => (refine' TPW.DF.of ?a ?l ?c ?k; (case a => k_is); (case l => k_is); (case c => k_is); (case k => k_is)))
    (case d_pairs_of => (refine' TPW.DF.of ?a ?l ?c ?k; (case a => k_is); (case l => k_is); (case c => k_is); (case k => k_is)))
    (case d_letters => (refine' TPW.DF.of ?a ?l ?c ?k; (case a => k_is); (case l => k_is); (case c => k_is); (case k => k_is)))
    (case d_check_word => (refine' TPW.DF.of ?a ?l ?c ?k; (case a => k_is); (case l => k_is); (case c => k_is); (case k => k_is)))
    (case d_product_at => (refine' TPW.DF.of ?a ?l ?c ?k; (case a => k_is); (case l => k_is); (case c => k_is); (case k => k_is)))
    (case d_power_of => (refine' TPW.DF.of ?a ?l ?c ?k; (case a => k_is); (case l => k_is); (case c => k_is); (case k => k_is)))
    (case d_word_of => (refine' TPW.DF.of ?a ?l ?c ?k; (case a => k_is); (case l => k_is); (case c => k_is); (case k => k_is)))
    (case d_reduced => (refine' TPW.DF.of ?a ?l ?c ?k; (case a => k_is); (case l => k_is); (case c => k_is); (case k => k_is)))
    (case d_meeting => (refine' TPW.DF.of ?a ?l ?c ?k; (case a => k_is); (case l => k_is); (case c => k_is); (case k => k_is)))
    (case d_distance => (refine' TPW.DF.of ?a ?l ?c ?k; (case a => k_is); (case l => k_is); (case c => k_is); (case k => k_is)))
    (case d_middle => (refine' TPW.DF.of ?a ?l ?c ?k; (case a => k_is); (case l => k_is); (case c => k_is); (case k => k_is)))
    (case d_way => (refine' TPW.DF.of ?a ?l ?c ?k; (case a => k_is); (case l => k_is); (case c => k_is); (case k => k_is)))
    (case d_law_row => (refine' TPW.DF.of ?a ?l ?c ?k; (case a => k_is); (case l => k_is); (case c => k_is); (case k => k_is)))
    (case d_law_numbers => (refine' TPW.DF.of ?a ?l ?c ?k; (case a => k_is); (case l => k_is); (case c => k_is); (case k => k_is)))
    (case d_law_product => (refine' TPW.DF.of ?a ?l ?c ?k; (case a => k_is); (case l => k_is); (case c => k_is); (case k => k_is)))
    (case d_law_turned => (refine' TPW.DF.of ?a ?l ?c ?k; (case a => k_is); (case l => k_is); (case c => k_is); (case k => k_is)))
    (case d_law_norm => (refine' TPW.DF.of ?a ?l ?c ?k; (case a => k_is); (case l => k_is); (case c => k_is); (case k => k_is)))
    (case d_law_divided => (refine' TPW.DF.of ?a ?l ?c ?k; (case a => k_is); (case l => k_is); (case c => k_is); (case k => k_is)))
    (case d_law_word => (refine' TPW.DF.of ?a ?l ?c ?k; (case a => k_is); (case l => k_is); (case c => k_is); (case k => k_is)))
    (case d_law_prime => (refine' TPW.DF.of ?a ?l ?c ?k; (case a => k_is); (case l => k_is); (case c => k_is); (case k => k_is)))
    (case d_law_power => (refine' TPW.DF.of ?a ?l ?c ?k; (case a => k_is); (case l => k_is); (case c => k_is); (case k => k_is)))
    (case d_law => (refine' TPW.DF.of ?a ?l ?c ?k; (case a => k_is); (case l => k_is); (case c => k_is); (case k => k_is)))
    (case m_len => k_is)
    (case m_range => k_is)
    (case m_zip => k_is)
    (case m_sum => k_is)
    (case m_tuple => k_is)
    (case m_abs => k_is)
    (case m_int => k_is)
    (case m_all => k_is)
    (case m_any => k_is)
    (case m_max => k_is)
    (case m_sorted => k_is)
    (case m_isinstance => k_is)
    (case m_bool => k_is)
    (case z_ZERO_numbers => k_is)
    (case l_ZERO_numbers => k_is)
    (case z_ZERO_dividing => k_is)
    (case l_ZERO_dividing => k_is)
    (case z_ONE => k_is)
    (case l_ONE => k_is)
    (case z_PARTS => k_is)
    (case z_MOST => k_is)
    (case z_gcd => k_is)
    (case z_isqrt => k_is)
