import PyProof.Rows.All
import Wide.All
import OpenK.AllK
import Wide.FinOn
import HandS.ForMost
import HandS.ForExc
import HandS.OwnEq
import HandS.Gcd
import HandS.Wide
import HandS.TupAny
import HandS.TupMul
import HandS.Defaults
import HandS.IsInst
import HandS.NoneIn
import HandS.Flow
import HandS.Style
import HandS.Codes
import HandS.Conv
import HandS.ExcInit
import HandS.ExcSuper
import HandS.SetFor
import PySem.Challenge.RW_metricparts_k38_whole_euclidean_metrics
import PyProof.InstNe
import PyProof.NeKinds
import KE.KSuper
section
namespace K38
abbrev Mx := Nat → Nat → Rat
def det3 (a b c d e f g h i : Rat) : Rat := a * (e * i - f * h) - b * (d * i - f * g) + c * (d * h - e * g)
def det4 (a b c d e f g h i j k l m n o p : Rat) : Rat := a * det3 f g h j k l n o p - b * det3 e g h i k l m o p + c * det3 e f h i j l m n p - d * det3 e f g i j k m n o
def D (M : Mx) : List Nat → Rat
  | [] => 1
  | [a] => M a a
  | [a, b] => M a a * M b b - M a b * M b a
  | [a, b, c] => det3 (M a a) (M a b) (M a c) (M b a) (M b b) (M b c) (M c a) (M c b) (M c c)
  | [a, b, c, d] => det4 (M a a) (M a b) (M a c) (M a d) (M b a) (M b b) (M b c) (M b d) (M c a) (M c b) (M c c) (M c d) (M d a) (M d b) (M d c) (M d d)
  | _ => 0
theorem D0 (M : Mx) : D M [] = 1 := rfl
theorem D1 (M : Mx) (a : Nat) : D M [a] = M a a := rfl
theorem D2 (M : Mx) (a b : Nat) : D M [a, b] = M a a * M b b - M a b * M b a := rfl
theorem D3 (M : Mx) (a b c : Nat) : D M [a, b, c] = det3 (M a a) (M a b) (M a c) (M b a) (M b b) (M b c) (M c a) (M c b) (M c c) := rfl
theorem D4 (M : Mx) (a b c d : Nat) : D M [a, b, c, d] = det4 (M a a) (M a b) (M a c) (M a d) (M b a) (M b b) (M b c) (M b d) (M c a) (M c b) (M c c) (M c d) (M d a) (M d b) (M d c) (M d d) := rfl
theorem D5 (M : Mx) (a b c d e : Nat) (r : List Nat) : D M (a :: b :: c :: d :: e :: r) = 0 := rfl
def step (W : Mx) (i : Nat) : Mx := fun j k => W j k - W i i * (W j i / W i i) * (W k i / W i i)
set_option maxHeartbeats 0
set_option maxRecDepth 1000000
/-! the law of Cauchy and Binet, by size -/
theorem cb1 (c1 c2 c3 c4 p1 p2 p3 p4 q1 q2 q3 q4 : Rat) :
  (c1*p1*p1 + c2*p2*p2 + c3*p3*p3 + c4*p4*p4) * (c1*q1*q1 + c2*q2*q2 + c3*q3*q3 + c4*q4*q4) - (c1*p1*q1 + c2*p2*q2 + c3*p3*q3 + c4*p4*q4) * (c1*q1*p1 + c2*q2*p2 + c3*q3*p3 + c4*q4*p4)
   = c1*c2*((p1*q2-p2*q1)*(p1*q2-p2*q1)) + c1*c3*((p1*q3-p3*q1)*(p1*q3-p3*q1)) + c1*c4*((p1*q4-p4*q1)*(p1*q4-p4*q1)) + c2*c3*((p2*q3-p3*q2)*(p2*q3-p3*q2)) + c2*c4*((p2*q4-p4*q2)*(p2*q4-p4*q2)) + c3*c4*((p3*q4-p4*q3)*(p3*q4-p4*q3)) := by grind
theorem cb3 (c1 c2 c3 c4 p1 p2 p3 p4 q1 q2 q3 q4 r1 r2 r3 r4 : Rat) :
  det3 (c1*p1*p1 + c2*p2*p2 + c3*p3*p3 + c4*p4*p4) (c1*p1*q1 + c2*p2*q2 + c3*p3*q3 + c4*p4*q4) (c1*p1*r1 + c2*p2*r2 + c3*p3*r3 + c4*p4*r4)
       (c1*q1*p1 + c2*q2*p2 + c3*q3*p3 + c4*q4*p4) (c1*q1*q1 + c2*q2*q2 + c3*q3*q3 + c4*q4*q4) (c1*q1*r1 + c2*q2*r2 + c3*q3*r3 + c4*q4*r4)
       (c1*r1*p1 + c2*r2*p2 + c3*r3*p3 + c4*r4*p4) (c1*r1*q1 + c2*r2*q2 + c3*r3*q3 + c4*r4*q4) (c1*r1*r1 + c2*r2*r2 + c3*r3*r3 + c4*r4*r4)
  = c1*c2*c3*((det3 p1 p2 p3 q1 q2 q3 r1 r2 r3)*(det3 p1 p2 p3 q1 q2 q3 r1 r2 r3))
  + c1*c2*c4*((det3 p1 p2 p4 q1 q2 q4 r1 r2 r4)*(det3 p1 p2 p4 q1 q2 q4 r1 r2 r4))
  + c1*c3*c4*((det3 p1 p3 p4 q1 q3 q4 r1 r3 r4)*(det3 p1 p3 p4 q1 q3 q4 r1 r3 r4))
  + c2*c3*c4*((det3 p2 p3 p4 q2 q3 q4 r2 r3 r4)*(det3 p2 p3 p4 q2 q3 q4 r2 r3 r4)) := by unfold det3; grind
theorem detmul (a b c d e f g h i j k l m n o p  a' b' c' d' e' f' g' h' i' j' k' l' m' n' o' p' : Rat) :
  det4 (a*a'+b*e'+c*i'+d*m') (a*b'+b*f'+c*j'+d*n') (a*c'+b*g'+c*k'+d*o') (a*d'+b*h'+c*l'+d*p')
       (e*a'+f*e'+g*i'+h*m') (e*b'+f*f'+g*j'+h*n') (e*c'+f*g'+g*k'+h*o') (e*d'+f*h'+g*l'+h*p')
       (i*a'+j*e'+k*i'+l*m') (i*b'+j*f'+k*j'+l*n') (i*c'+j*g'+k*k'+l*o') (i*d'+j*h'+k*l'+l*p')
       (m*a'+n*e'+o*i'+p*m') (m*b'+n*f'+o*j'+p*n') (m*c'+n*g'+o*k'+p*o') (m*d'+n*h'+o*l'+p*p')
   = det4 a b c d e f g h i j k l m n o p * det4 a' b' c' d' e' f' g' h' i' j' k' l' m' n' o' p' := by unfold det4 det3; grind (ringSteps := 10000000)
theorem cb4 (c1 c2 c3 c4 p1 p2 p3 p4 q1 q2 q3 q4 r1 r2 r3 r4 s1 s2 s3 s4 : Rat) :
  det4 (c1*p1*p1 + c2*p2*p2 + c3*p3*p3 + c4*p4*p4) (c1*p1*q1 + c2*p2*q2 + c3*p3*q3 + c4*p4*q4) (c1*p1*r1 + c2*p2*r2 + c3*p3*r3 + c4*p4*r4) (c1*p1*s1 + c2*p2*s2 + c3*p3*s3 + c4*p4*s4)
       (c1*q1*p1 + c2*q2*p2 + c3*q3*p3 + c4*q4*p4) (c1*q1*q1 + c2*q2*q2 + c3*q3*q3 + c4*q4*q4) (c1*q1*r1 + c2*q2*r2 + c3*q3*r3 + c4*q4*r4) (c1*q1*s1 + c2*q2*s2 + c3*q3*s3 + c4*q4*s4)
       (c1*r1*p1 + c2*r2*p2 + c3*r3*p3 + c4*r4*p4) (c1*r1*q1 + c2*r2*q2 + c3*r3*q3 + c4*r4*q4) (c1*r1*r1 + c2*r2*r2 + c3*r3*r3 + c4*r4*r4) (c1*r1*s1 + c2*r2*s2 + c3*r3*s3 + c4*r4*s4)
       (c1*s1*p1 + c2*s2*p2 + c3*s3*p3 + c4*s4*p4) (c1*s1*q1 + c2*s2*q2 + c3*s3*q3 + c4*s4*q4) (c1*s1*r1 + c2*s2*r2 + c3*s3*r3 + c4*s4*r4) (c1*s1*s1 + c2*s2*s2 + c3*s3*s3 + c4*s4*s4)
  = c1*c2*c3*c4*((det4 p1 p2 p3 p4 q1 q2 q3 q4 r1 r2 r3 r4 s1 s2 s3 s4) * (det4 p1 p2 p3 p4 q1 q2 q3 q4 r1 r2 r3 r4 s1 s2 s3 s4)) := by
  rw [detmul (c1*p1) (c2*p2) (c3*p3) (c4*p4) (c1*q1) (c2*q2) (c3*q3) (c4*q4) (c1*r1) (c2*r2) (c3*r3) (c4*r4) (c1*s1) (c2*s2) (c3*s3) (c4*s4) p1 q1 r1 s1 p2 q2 r2 s2 p3 q3 r3 s3 p4 q4 r4 s4]
  have e1 : det4 (c1*p1) (c2*p2) (c3*p3) (c4*p4) (c1*q1) (c2*q2) (c3*q3) (c4*q4) (c1*r1) (c2*r2) (c3*r3) (c4*r4) (c1*s1) (c2*s2) (c3*s3) (c4*s4) = c1*c2*c3*c4 * det4 p1 p2 p3 p4 q1 q2 q3 q4 r1 r2 r3 r4 s1 s2 s3 s4 := by unfold det4 det3; grind
  have e2 : det4 p1 q1 r1 s1 p2 q2 r2 s2 p3 q3 r3 s3 p4 q4 r4 s4 = det4 p1 p2 p3 p4 q1 q2 q3 q4 r1 r2 r3 r4 s1 s2 s3 s4 := by unfold det4 det3; grind
  rw [e1, e2]; grind
theorem sq_nn (a : Rat) : 0 ≤ a * a := by
  rcases Rat.le_total (a := 0) (b := a) with h | h
  · exact Rat.mul_nonneg h h
  · have := Rat.mul_nonneg (a := -a) (b := -a) (by grind) (by grind); grind
/-- a sum of at most four multiples of squares -/
structure Dec (G : Mx) (n : Nat) (c : Nat → Rat) (l : Nat → Nat → Rat) (r : Nat) : Prop where
  eq : ∀ a b, a < n → b < n → G a b = c 0 * l 0 a * l 0 b + c 1 * l 1 a * l 1 b + c 2 * l 2 a * l 2 b + c 3 * l 3 a * l 3 b
  nn : ∀ k, 0 ≤ c k
  zr : ∀ k, r ≤ k → c k = 0
variable {G : Mx} {n r : Nat} {c : Nat → Rat} {l : Nat → Nat → Rat}
theorem dec_D : ∀ (S : List Nat), Dec G n c l r → (∀ x ∈ S, x < n) → 0 ≤ D G S ∧ (S.length ≤ 4 → r < S.length → D G S = 0)
  | [], _, _ => ⟨by rw [D0]; decide, fun _ h => absurd h (by simp)⟩
  | [a], d, h => by
    have ha := h a (by simp)
    have e : D G [a] = c 0 * (l 0 a * l 0 a) + c 1 * (l 1 a * l 1 a) + c 2 * (l 2 a * l 2 a) + c 3 * (l 3 a * l 3 a) := by rw [D1, d.eq a a ha ha]; grind
    rw [e]
    have n0 := Rat.mul_nonneg (d.nn 0) (sq_nn (l 0 a))
    have n1 := Rat.mul_nonneg (d.nn 1) (sq_nn (l 1 a))
    have n2 := Rat.mul_nonneg (d.nn 2) (sq_nn (l 2 a))
    have n3 := Rat.mul_nonneg (d.nn 3) (sq_nn (l 3 a))
    refine ⟨by grind, fun _ hr => ?_⟩
    have hr : r < 1 := hr
    rw [d.zr 0 (by omega), d.zr 1 (by omega), d.zr 2 (by omega), d.zr 3 (by omega)]; grind
  | [a, b], d, h => by
    have ha := h a (by simp)
    have hb := h b (by simp)
    rw [D2, d.eq a a ha ha, d.eq b b hb hb, d.eq a b ha hb, d.eq b a hb ha, cb1]
    have nn := fun i j x => Rat.mul_nonneg (Rat.mul_nonneg (d.nn i) (d.nn j)) (sq_nn x)
    have n1 := nn 0 1 (l 0 a * l 1 b - l 1 a * l 0 b)
    have n2 := nn 0 2 (l 0 a * l 2 b - l 2 a * l 0 b)
    have n3 := nn 0 3 (l 0 a * l 3 b - l 3 a * l 0 b)
    have n4 := nn 1 2 (l 1 a * l 2 b - l 2 a * l 1 b)
    have n5 := nn 1 3 (l 1 a * l 3 b - l 3 a * l 1 b)
    have n6 := nn 2 3 (l 2 a * l 3 b - l 3 a * l 2 b)
    refine ⟨by grind, fun _ hr => ?_⟩
    have hr : r < 2 := hr
    rw [d.zr 1 (by omega), d.zr 2 (by omega), d.zr 3 (by omega)]; grind
  | [a, b, e], d, h => by
    have ha := h a (by simp)
    have hb := h b (by simp)
    have he := h e (by simp)
    rw [D3, d.eq a a ha ha, d.eq b b hb hb, d.eq a b ha hb, d.eq b a hb ha, d.eq a e ha he, d.eq b e hb he, d.eq e a he ha, d.eq e b he hb, d.eq e e he he, cb3]
    have nn := fun i j k x => Rat.mul_nonneg (Rat.mul_nonneg (Rat.mul_nonneg (d.nn i) (d.nn j)) (d.nn k)) (sq_nn x)
    refine ⟨?_, fun _ hr => ?_⟩
    · have n1 := nn 0 1 2
      have n2 := nn 0 1 3
      have n3 := nn 0 2 3
      have n4 := nn 1 2 3
      exact Rat.add_nonneg (Rat.add_nonneg (Rat.add_nonneg (n1 _) (n2 _)) (n3 _)) (n4 _)
    · have hr : r < 3 := hr
      rw [d.zr 2 (by omega), d.zr 3 (by omega)]; grind
  | [a, b, e, f], d, h => by
    have ha := h a (by simp)
    have hb := h b (by simp)
    have he := h e (by simp)
    have hf := h f (by simp)
    rw [D4, d.eq a a ha ha, d.eq b b hb hb, d.eq a b ha hb, d.eq b a hb ha, d.eq a e ha he, d.eq b e hb he, d.eq e a he ha, d.eq e b he hb, d.eq e e he he, d.eq a f ha hf, d.eq b f hb hf, d.eq e f he hf, d.eq f a hf ha, d.eq f b hf hb, d.eq f e hf he, d.eq f f hf hf, cb4]
    refine ⟨?_, fun _ hr => ?_⟩
    · exact Rat.mul_nonneg (Rat.mul_nonneg (Rat.mul_nonneg (Rat.mul_nonneg (d.nn _) (d.nn _)) (d.nn _)) (d.nn _)) (sq_nn _)
    · have hr : r < 4 := hr
      rw [d.zr 3 (by omega)]; grind
  | _ :: _ :: _ :: _ :: _ :: _, _, _ => ⟨by rw [D5]; decide, fun h => absurd h (by simp)⟩
/-! the law of Schur, by size -/
theorem schur0 (M : Mx) (i : Nat) : D M [i] = M i i * D (step M i) [] := by rw [D1, D0]; grind
theorem schur_e (M : Mx) (sy : ∀ a b, M a b = M b a) (i : Nat) (hi : M i i ≠ 0) (a b : Nat) : M a b = step M i a b + M i i * (M a i / M i i) * (M b i / M i i) ∧ M a i = M i i * (M a i / M i i) ∧ M i a = M i i * (M a i / M i i) := by
  refine ⟨?_, ?_, ?_⟩
  · unfold step; grind
  · grind
  · rw [sy i a]; grind
theorem schur1' (c u : Rat) (w : Rat) : c * (w + c * u * u) - (c * u) * (c * u) = c * w := by grind
theorem schur2' (c u v a b d e : Rat) : det3 c (c*u) (c*v) (c*u) (a + c*u*u) (b + c*u*v) (c*v) (d + c*v*u) (e + c*v*v) = c * (a * e - b * d) := by unfold det3; grind
theorem schur3' (c u v w a b d e f g h i j : Rat) : 
   det4 c (c*u) (c*v) (c*w) (c*u) (a + c*u*u) (b + c*u*v) (d + c*u*w) (c*v) (e + c*v*u) (f + c*v*v) (g + c*v*w) (c*w) (h + c*w*u) (i + c*w*v) (j + c*w*w)
   = c * det3 a b d e f g h i j := by unfold det4 det3; grind
theorem schur (M : Mx) (sy : ∀ a b, M a b = M b a) (i : Nat) (hi : M i i ≠ 0) : ∀ S : List Nat, S.length ≤ 3 → D M (i :: S) = M i i * D (step M i) S
  | [], _ => schur0 M i
  | [a], _ => by
    have e := schur_e M sy i hi
    have q := schur1' (M i i) (M a i / M i i) (step M i a a)
    rw [← (e a a).1, ← (e a a).2.1] at q
    rw [D2, D1, sy i a]; exact q
  | [a, b], _ => by
    have e := schur_e M sy i hi
    have q := schur2' (M i i) (M a i / M i i) (M b i / M i i) (step M i a a) (step M i a b) (step M i b a) (step M i b b)
    rw [← (e a a).1, ← (e a b).1, ← (e b a).1, ← (e b b).1, ← (e a a).2.1, ← (e b b).2.1] at q
    rw [D3, D2, sy i a, sy i b]; exact q
  | [a, b, d], _ => by
    have e := schur_e M sy i hi
    have q := schur3' (M i i) (M a i / M i i) (M b i / M i i) (M d i / M i i) (step M i a a) (step M i a b) (step M i a d) (step M i b a) (step M i b b) (step M i b d) (step M i d a) (step M i d b) (step M i d d)
    rw [← (e a a).1, ← (e a b).1, ← (e a d).1, ← (e b a).1, ← (e b b).1, ← (e b d).1, ← (e d a).1, ← (e d b).1, ← (e d d).1, ← (e a a).2.1, ← (e b b).2.1, ← (e d d).2.1] at q
    rw [D4, D3, sy i a, sy i b, sy i d]; exact q
  | _ :: _ :: _ :: _ :: _, h => absurd h (by simp)
end K38
end

section
namespace K38
set_option maxHeartbeats 1000000
set_option exponentiation.threshold 100000
/-- what next_place tells -/
def NP (n : Nat) (W : Mx) : Option Nat → Prop
  | none => (∃ i, i < n ∧ W i i < 0) ∨ ∀ i, i < n → W i i = 0
  | some i => i < n ∧ 0 < W i i ∧ (∀ j, j < n → 0 ≤ W j j) ∧ ∀ j, j < i → W j j = 0
abbrev Stp := Nat × Rat × (Nat → Rat)
def sumS : List Stp → Nat → Nat → Rat
  | [], _, _ => 0
  | s :: r, a, b => s.2.1 * s.2.2 a * s.2.2 b + sumS r a b
theorem sumS_app (l m : List Stp) (a b : Nat) : sumS (l ++ m) a b = sumS l a b + sumS m a b := by
  induction l with
  | nil => simp [sumS]; grind
  | cons s r ih => simp only [List.cons_append, sumS, ih]; grind
def bb : Nat → Nat
  | 0 => 32
  | k + 1 => 2 * bb k + 1
def dd : Nat → Nat
  | 0 => 5
  | k + 1 => bb k + dd k
/-- a table of numbers with one denominator -/
def Com (a b n : Nat) (W : Mx) : Prop := ∃ (N : Nat → Nat → Int) (d : Int), 0 < d ∧ d < 2 ^ b ∧ ∀ i j, i < n → j < n → (N i j).natAbs < 2 ^ a ∧ W i j = (N i j : Rat) / (d : Rat)
/-- a step's numbers -/
def ComS (n : Nat) (s : Stp) : Prop := ∃ (v d : Int) (u : Nat → Int), 0 < v ∧ v < 2 ^ 263 ∧ 0 < d ∧ d < 2 ^ 263 ∧ s.2.1 = (v : Rat) / (d : Rat) ∧ ∀ j, j < n → (u j).natAbs < 2 ^ 263 ∧ s.2.2 j = (u j : Rat) / (v : Rat)
structure EI (n : Nat) (G W : Mx) (st : List Stp) (lo : Nat) : Prop where
  dec : ∀ a b, G a b = W a b + sumS st a b
  sy : ∀ a b, W a b = W b a
  pos : ∀ s ∈ st, 0 < s.2.1
  lt : ∀ s ∈ st, s.1 < lo
  nd : (st.map (·.1)).Nodup
  zr : ∀ s ∈ st, ∀ x, W s.1 x = 0
  lon : lo ≤ n
  le : ∀ j, j < lo → W j j ≤ 0
  len : st.length ≤ lo
  pr : ∃ P : Rat, 0 < P ∧ ∀ S, st.length + S.length ≤ 4 → D G (st.map (·.1) ++ S) = P * D W S
  com : Com (bb st.length) (dd st.length) n W
  coms : ∀ s ∈ st, ComS n s
variable {n lo : Nat} {G W : Mx} {st : List Stp}
theorem EI.start (sy : ∀ a b, G a b = G b a) (h : Com 32 5 n G) : EI n G G [] 0 where
  dec := fun a b => by simp [sumS]; grind
  sy := sy
  pos := fun s h => absurd h (by simp)
  lt := fun s h => absurd h (by simp)
  nd := by simp
  zr := fun s h => absurd h (by simp)
  lon := Nat.zero_le _
  le := fun j h => absurd h (by omega)
  len := Nat.zero_le _
  pr := ⟨1, by decide, fun S _ => by simp⟩
  com := h
  coms := fun s h => absurd h (by simp)
theorem bb3 {k : Nat} (h : k ≤ 3) : bb k ≤ 263 ∧ dd k ≤ 263 := by
  match k, h with
  | 0, _ => decide
  | 1, _ => decide
  | 2, _ => decide
  | 3, _ => decide
theorem pow_le {a b : Nat} (h : a ≤ b) : (2 : Int) ^ a ≤ 2 ^ b := by
  have := Nat.pow_le_pow_right (n := 2) (by decide) h
  exact_mod_cast this
theorem natAbs_sub_lt {x y : Int} {a b : Nat} (hx : x.natAbs < a) (hy : y.natAbs < b) : (x - y).natAbs < a + b := by omega
theorem com_step {k i : Nat} (hi : i < n) (hp : 0 < W i i) (sy : ∀ a b, W a b = W b a) (h : Com (bb k) (dd k) n W) : Com (bb (k + 1)) (dd (k + 1)) n (step W i) ∧
    (k ≤ 3 → ComS n (i, W i i, fun j => W j i / W i i)) := by
  obtain ⟨N, d, d0, db, hN⟩ := h
  have d0' : (0 : Rat) < (d : Rat) := by exact_mod_cast d0
  have dne : (d : Rat) ≠ 0 := by grind
  have ec : W i i = (N i i : Rat) / (d : Rat) := (hN i i hi hi).2
  have cn : (0 : Rat) < (N i i : Rat) := by
    have : W i i * (d : Rat) = (N i i : Rat) := by rw [ec]; grind
    have q := Rat.mul_pos hp d0'
    rw [this] at q; exact q
  have cN : 0 < N i i := by exact_mod_cast cn
  have cne : (N i i : Rat) ≠ 0 := by grind
  have lc := (hN i i hi hi).1
  have abs_lt : N i i < 2 ^ (bb k) := by
    have : ((N i i).natAbs : Int) < ((2 ^ bb k : Nat) : Int) := by exact_mod_cast lc
    have e : ((2 ^ bb k : Nat) : Int) = 2 ^ bb k := by push_cast; rfl
    omega
  refine ⟨⟨fun a b => N i i * N a b - N a i * N b i, N i i * d, Int.mul_pos cN d0, ?_, fun a b ha hb => ⟨?_, ?_⟩⟩, fun hk => ?_⟩
  · show N i i * d < 2 ^ (bb k + dd k)
    rw [Int.pow_add]
    exact Int.mul_lt_mul abs_lt (Int.le_of_lt db) d0 (by omega)
  · have h1 := (hN a b ha hb).1
    have h2 := (hN a i ha hi).1
    have h3 := (hN b i hb hi).1
    have q1 : (N i i * N a b).natAbs < 2 ^ (bb k) * 2 ^ (bb k) := by rw [Int.natAbs_mul]; exact Nat.mul_lt_mul'' lc h1
    have q2 : (N a i * N b i).natAbs < 2 ^ (bb k) * 2 ^ (bb k) := by rw [Int.natAbs_mul]; exact Nat.mul_lt_mul'' h2 h3
    have q := natAbs_sub_lt q1 q2
    have e : 2 ^ (bb (k + 1)) = 2 ^ (bb k) * 2 ^ (bb k) + 2 ^ (bb k) * 2 ^ (bb k) := by
      show 2 ^ (2 * bb k + 1) = _
      rw [Nat.pow_succ, Nat.two_mul, Nat.pow_add]; omega
    rw [e]; exact q
  · have e1 := (hN a b ha hb).2
    have e2 := (hN a i ha hi).2
    have e3 := (hN b i hb hi).2
    unfold step
    rw [e1, e2, e3, ec, Rat.intCast_sub, Rat.intCast_mul, Rat.intCast_mul, Rat.intCast_mul]
    grind
  · have hb := bb3 hk
    refine ⟨N i i, d, fun j => N j i, cN, Int.lt_of_lt_of_le abs_lt (pow_le hb.1), d0, Int.lt_of_lt_of_le db (pow_le hb.2), ec, fun j hj => ⟨Nat.lt_of_lt_of_le (hN j i hj hi).1 (Nat.pow_le_pow_right (by decide) hb.1), ?_⟩⟩
    show W j i / W i i = _
    rw [(hN j i hj hi).2, ec]
    grind
theorem step_sy (sy : ∀ a b, W a b = W b a) (i a b : Nat) : step W i a b = step W i b a := by
  unfold step; rw [sy a b]; grind
theorem EI.next (h : EI n G W st lo) (hn : n ≤ 4) {i : Nat} (np : NP n W (some i)) : lo ≤ i ∧ EI n G (step W i) (st ++ [(i, W i i, fun j => W j i / W i i)]) (i + 1) := by
  obtain ⟨hi, hp, nn, z⟩ := np
  have hlo : lo ≤ i := by
    rcases Nat.lt_or_ge i lo with q | q
    · have := h.le i q; grind
    · exact q
  have hne : W i i ≠ 0 := by grind
  have hk : st.length ≤ 3 := by have := h.len; omega
  have cs := com_step hi hp h.sy h.com
  refine ⟨hlo, ?_⟩
  exact {
    dec := fun a b => by
      rw [sumS_app, h.dec a b]
      show _ = step W i a b + (sumS st a b + (W i i * (W a i / W i i) * (W b i / W i i) + 0))
      unfold step; grind
    sy := step_sy h.sy i
    pos := fun s hs => by
      rcases List.mem_append.mp hs with q | q
      · exact h.pos s q
      · have e := List.mem_singleton.mp q
        rw [e]; exact hp
    lt := fun s hs => by
      rcases List.mem_append.mp hs with q | q
      · have := h.lt s q; omega
      · have e := List.mem_singleton.mp q
        rw [e]; exact Nat.lt_succ_self _
    nd := by
      rw [List.map_append]
      refine List.nodup_append.mpr ⟨h.nd, by simp, fun x hx y hy => ?_⟩
      obtain ⟨s, hs, e⟩ := List.mem_map.mp hx
      have := h.lt s hs
      have e2 : y = i := by simpa using hy
      omega
    zr := fun s hs x => by
      rcases List.mem_append.mp hs with q | q
      · have q1 := h.zr s q x
        have q2 := h.zr s q i
        show W s.1 x - W i i * (W s.1 i / W i i) * (W x i / W i i) = 0
        rw [q1, q2]; grind
      · have e := List.mem_singleton.mp q
        rw [e]
        show W i x - W i i * (W i i / W i i) * (W x i / W i i) = 0
        rw [h.sy i x]; grind
    lon := hi
    le := fun j hj => by
      have e : step W i j j = W j j - W i i * ((W j i / W i i) * (W j i / W i i)) := by unfold step; grind
      have q := Rat.mul_nonneg (Rat.le_of_lt hp) (sq_nn (W j i / W i i))
      rw [e]
      rcases Nat.lt_or_ge j i with hji | hji
      · have := z j hji; grind
      · have e2 : j = i := by omega
        have e3 : W i i / W i i = 1 := by grind
        rw [e2, e3]; grind
    len := by rw [List.length_append]; show _ + 1 ≤ _; have := h.len; omega
    pr := by
      obtain ⟨P, hP, hS⟩ := h.pr
      refine ⟨P * W i i, Rat.mul_pos hP hp, fun S hl => ?_⟩
      rw [List.length_append] at hl
      have hl' : st.length + 1 + S.length ≤ 4 := hl
      rw [List.map_append, List.append_assoc]
      show D G (st.map (·.1) ++ (i :: S)) = _
      rw [hS (i :: S) (by rw [List.length_cons]; omega), schur W h.sy i hne S (by omega)]
      grind
    com := by rw [List.length_append]; exact cs.1
    coms := fun s hs => by
      rcases List.mem_append.mp hs with q | q
      · exact h.coms s q
      · have e := List.mem_singleton.mp q
        rw [e]; exact cs.2 hk }
theorem nodup_len : ∀ (n : Nat) (l : List Nat), l.Nodup → (∀ x ∈ l, x < n) → l.length ≤ n
  | 0, [], _, _ => Nat.le_refl _
  | 0, x :: _, _, h => absurd (h x (by simp)) (by omega)
  | n + 1, l, hn, h => by
    have ih := nodup_len n (l.erase n) (hn.erase n) (fun x hx => by
      have h1 := h x (List.mem_of_mem_erase hx)
      have h2 : x ≠ n := fun e => by
        rw [e] at hx
        exact (hn.not_mem_erase) hx
      omega)
    have := List.length_erase (a := n) (l := l)
    split at this <;> omega
/-- elimination stops and something is left: some determinant is below 0 -/
theorem EI.fail (h : EI n G W st lo) (hn : n ≤ 4) (np : NP n W none) (hw : ∃ a b, a < n ∧ b < n ∧ W a b ≠ 0) : ∃ S : List Nat, S.Nodup ∧ (∀ x ∈ S, x < n) ∧ D G S < 0 := by
  obtain ⟨P, hP, hS⟩ := h.pr
  have ltn : ∀ s ∈ st, s.1 < n := fun s hs => Nat.lt_of_lt_of_le (h.lt s hs) h.lon
  have neg : ∃ a, a < n ∧ W a a < 0 ∨ (∀ i, i < n → W i i = 0) := by
    rcases np with ⟨i, hi, q⟩ | q
    · exact ⟨i, .inl ⟨hi, q⟩⟩
    · exact ⟨0, .inr q⟩
  obtain ⟨j, ⟨hj, q⟩ | q⟩ := neg
  · have hnot : j ∉ st.map (·.1) := fun hm => by
      obtain ⟨s, hs, e⟩ := List.mem_map.mp hm
      have := h.zr s hs s.1
      rw [e] at this; rw [this] at q; exact absurd q (by decide)
    have nd : (st.map (·.1) ++ [j]).Nodup := List.nodup_append.mpr ⟨h.nd, by simp, fun x hx y hy e => by
      have e2 : y = j := by simpa using hy
      rw [← e2, ← e] at hnot; exact hnot hx⟩
    have lt : ∀ x ∈ st.map (·.1) ++ [j], x < n := fun x hx => by
      rcases List.mem_append.mp hx with hx | hx
      · obtain ⟨s, hs, e⟩ := List.mem_map.mp hx
        rw [← e]; exact ltn s hs
      · have e2 : x = j := by simpa using hx
        omega
    have len := nodup_len n _ nd lt
    rw [List.length_append, List.length_map] at len
    refine ⟨_, nd, lt, ?_⟩
    rw [hS [j] (by omega), D1]
    have := Rat.mul_pos hP (show (0 : Rat) < - W j j by grind)
    grind
  · obtain ⟨a, b, ha, hb, hab⟩ := hw
    have hne : a ≠ b := fun e => hab (by rw [← e]; exact q a ha)
    have hnot : ∀ x y, W x y ≠ 0 → x ∉ st.map (·.1) := fun x y hx hm => by
      obtain ⟨s, hs, e⟩ := List.mem_map.mp hm
      have := h.zr s hs y
      rw [e] at this; exact hx this
    have na := hnot a b hab
    have nb := hnot b a (by rw [h.sy b a]; exact hab)
    have nd : (st.map (·.1) ++ [a, b]).Nodup := List.nodup_append.mpr ⟨h.nd, by simp [hne], fun x hx y hy e => by
      have e2 : y = a ∨ y = b := by simpa using hy
      rcases e2 with e2 | e2
      · rw [← e2, ← e] at na; exact na hx
      · rw [← e2, ← e] at nb; exact nb hx⟩
    have lt : ∀ x ∈ st.map (·.1) ++ [a, b], x < n := fun x hx => by
      rcases List.mem_append.mp hx with hx | hx
      · obtain ⟨s, hs, e⟩ := List.mem_map.mp hx
        rw [← e]; exact ltn s hs
      · have e2 : x = a ∨ x = b := by simpa using hx
        omega
    have len := nodup_len n _ nd lt
    rw [List.length_append, List.length_map] at len
    refine ⟨_, nd, lt, ?_⟩
    rw [hS [a, b] (by omega), D2, q a ha, q b hb, h.sy b a]
    have h0 := sq_nn (W a b)
    have h1 : W a b * W a b ≠ 0 := fun e => by
      rcases Rat.mul_eq_zero.mp e with z | z <;> exact hab z
    have := Rat.mul_pos hP (show (0 : Rat) < W a b * W a b by grind)
    grind
def stC (st : List Stp) (k : Nat) : Rat := match st[k]? with | some s => s.2.1 | none => 0
def stL (st : List Stp) (k : Nat) : Nat → Rat := match st[k]? with | some s => s.2.2 | none => fun _ => 0
theorem sumS4 : ∀ (st : List Stp) (a b : Nat), st.length ≤ 4 → sumS st a b = stC st 0 * stL st 0 a * stL st 0 b + stC st 1 * stL st 1 a * stL st 1 b + stC st 2 * stL st 2 a * stL st 2 b + stC st 3 * stL st 3 a * stL st 3 b
  | [], a, b, _ => by simp [sumS, stC, stL]; grind
  | [s], a, b, _ => by simp [sumS, stC, stL]; grind
  | [s, t], a, b, _ => by simp [sumS, stC, stL]; grind
  | [s, t, u], a, b, _ => by simp [sumS, stC, stL]; grind
  | [s, t, u, v], a, b, _ => by simp [sumS, stC, stL]; grind
  | _ :: _ :: _ :: _ :: _ :: _, _, _, h => absurd h (by simp)
/-- nothing is left: no determinant is below 0; those of more rows than steps are 0, and one of so many rows is above 0 -/
theorem EI.good (h : EI n G W st lo) (hn : n ≤ 4) (hw : ∀ a b, a < n → b < n → W a b = 0) :
    (∀ S : List Nat, (∀ x ∈ S, x < n) → 0 ≤ D G S ∧ (S.length ≤ 4 → st.length < S.length → D G S = 0)) ∧
    ∃ S : List Nat, S.Nodup ∧ (∀ x ∈ S, x < n) ∧ S.length = st.length ∧ 0 < D G S := by
  have ltn : ∀ s ∈ st, s.1 < n := fun s hs => Nat.lt_of_lt_of_le (h.lt s hs) h.lon
  have l4 : st.length ≤ 4 := by have := h.len; have := h.lon; omega
  refine ⟨fun S hS => dec_D (c := stC st) (l := stL st) (r := st.length) S ⟨fun a b ha hb => ?_, fun k => ?_, fun k hk => ?_⟩ hS, st.map (·.1), h.nd, fun x hx => ?_, by rw [List.length_map], ?_⟩
  · rw [h.dec a b, hw a b ha hb, sumS4 st a b l4]; grind
  · unfold stC
    split
    · rename_i s e
      exact Rat.le_of_lt (h.pos s (List.mem_of_getElem? e))
    · decide
  · unfold stC
    rw [List.getElem?_eq_none hk]
  · obtain ⟨s, hs, e⟩ := List.mem_map.mp hx
    rw [← e]; exact ltn s hs
  · obtain ⟨P, hP, hS⟩ := h.pr
    have := hS [] (by simpa using l4)
    rw [List.append_nil, D0] at this
    rw [this]; grind
end K38
end

section
namespace K38
set_option maxHeartbeats 4000000
set_option maxRecDepth 100000
set_option linter.unusedSimpArgs false
abbrev Mi := Nat → Nat → Int
def minorF (j : Nat) (M : Mi) : Mi := fun a b => M (a + 1) (if b < j then b else b + 1)
def detS (M : Mi) (rec : Mi → Int) : Nat → Int
  | 0 => 0
  | j + 1 => detS M rec j + (1 - 2 * ((j : Int) % 2)) * M 0 j * rec (minorF j M)
def detF : Nat → Mi → Int
  | 0, _ => 1
  | n + 1, M => detS M (detF n) (n + 1)
def sub (T : Mi) (S : List Nat) : Mi := fun a b => T (S.getD a 0) (S.getD b 0)
abbrev toR (T : Mi) : Mx := fun a b => (T a b : Rat)
theorem detF_D (T : Mi) : ∀ S : List Nat, S.length ≤ 4 → ((detF S.length (sub T S) : Int) : Rat) = D (toR T) S
  | [], _ => by simp [detF, D0]
  | [a], _ => by
    simp [detF, detS, sub, D1, Rat.intCast_mul, Rat.intCast_add, Rat.intCast_sub]
  | [a, b], _ => by
    simp [detF, detS, sub, D2, minorF, Rat.intCast_mul, Rat.intCast_add, Rat.intCast_sub]; grind
  | [a, b, c], _ => by
    simp [detF, detS, sub, D3, minorF, Rat.intCast_mul, Rat.intCast_add, Rat.intCast_sub, det3]; grind
  | [a, b, c, d], _ => by
    simp [detF, detS, sub, D4, minorF, Rat.intCast_mul, Rat.intCast_add, Rat.intCast_sub, det4, det3]; grind
  | _ :: _ :: _ :: _ :: _ :: _, h => absurd h (by simp)
def parts : Nat → List (List Nat)
  | 0 => [[]]
  | n + 1 => parts n ++ (parts n).map (· ++ [n])
theorem parts_ok : ∀ n, ∀ S ∈ parts n, S.length ≤ n ∧ ∀ x ∈ S, x < n
  | 0, S, h => by
    have e : S = [] := by simpa [parts] using h
    subst e
    exact ⟨Nat.le_refl _, fun x h => absurd h (by simp)⟩
  | n + 1, S, h => by
    rcases List.mem_append.mp h with h | h
    · have ih := parts_ok n S h
      exact ⟨by omega, fun x hx => by have := ih.2 x hx; omega⟩
    · obtain ⟨S', h', e⟩ := List.mem_map.mp h
      have ih := parts_ok n S' h'
      subst e
      refine ⟨by rw [List.length_append]; show _ + 1 ≤ _; omega, fun x hx => ?_⟩
      rcases List.mem_append.mp hx with hx | hx
      · have := ih.2 x hx; omega
      · have e : x = n := by simpa using hx
        omega
theorem parts_len (n : Nat) : (parts n).length = 2 ^ n := by
  induction n with
  | zero => rfl
  | succ n ih => show (parts n ++ (parts n).map (· ++ [n])).length = _; rw [List.length_append, List.length_map, ih, Nat.pow_succ]; omega
/-! rows in another order -/
theorem sw2 (M : Mx) (a b : Nat) : D M [a, b] = D M [b, a] := by rw [D2, D2]; grind
theorem sw3a (M : Mx) (a b c : Nat) : D M [a, b, c] = D M [b, a, c] := by rw [D3, D3]; unfold det3; grind
theorem sw3b (M : Mx) (a b c : Nat) : D M [a, b, c] = D M [a, c, b] := by rw [D3, D3]; unfold det3; grind
theorem sw4a (M : Mx) (a b c d : Nat) : D M [a, b, c, d] = D M [b, a, c, d] := by rw [D4, D4]; unfold det4 det3; grind
theorem sw4b (M : Mx) (a b c d : Nat) : D M [a, b, c, d] = D M [a, c, b, d] := by rw [D4, D4]; unfold det4 det3; grind
theorem sw4c (M : Mx) (a b c d : Nat) : D M [a, b, c, d] = D M [a, b, d, c] := by rw [D4, D4]; unfold det4 det3; grind
def ins (x : Nat) : List Nat → List Nat
  | [] => [x]
  | y :: r => if x ≤ y then x :: y :: r else y :: ins x r
def srt : List Nat → List Nat
  | [] => []
  | x :: r => ins x (srt r)
theorem ins3 (M : Mx) (z a b c : Nat) : D M (z :: ins a [b, c]) = D M [z, a, b, c] := by
  unfold ins; split
  · rfl
  · unfold ins; split
    · exact (sw4b M z a b c).symm
    · show D M [z, b, c, a] = _
      rw [sw4c M z b c a, sw4b M z b a c]
theorem ins2z (M : Mx) (z a b : Nat) : D M (z :: ins a [b]) = D M [z, a, b] := by
  unfold ins; split
  · rfl
  · exact (sw3b M z a b).symm
theorem ins2zy (M : Mx) (y z a b : Nat) : D M (y :: z :: ins a [b]) = D M [y, z, a, b] := by
  unfold ins; split
  · rfl
  · exact (sw4c M y z a b).symm
theorem ins1 (M : Mx) (a b : Nat) : D M (ins a [b]) = D M [a, b] := by
  unfold ins; split
  · rfl
  · exact (sw2 M a b).symm
theorem ins2 (M : Mx) (a b c : Nat) : D M (ins a [b, c]) = D M [a, b, c] := by
  unfold ins; split
  · rfl
  · rw [ins2z]; exact (sw3a M a b c).symm
theorem ins4 (M : Mx) (a b c d : Nat) : D M (ins a [b, c, d]) = D M [a, b, c, d] := by
  unfold ins; split
  · rfl
  · rw [ins3]; exact (sw4a M a b c d).symm
theorem ins_two (a b : Nat) : ∃ x y, ins a [b] = [x, y] := by
  unfold ins; split
  · exact ⟨_, _, rfl⟩
  · exact ⟨_, _, rfl⟩
theorem ins_three (a b c : Nat) : ∃ x y z, ins a [b, c] = [x, y, z] := by
  unfold ins; split
  · exact ⟨_, _, _, rfl⟩
  · obtain ⟨x, y, e⟩ := ins_two a c
    rw [e]; exact ⟨_, _, _, rfl⟩
theorem srt_D (M : Mx) : ∀ S : List Nat, S.length ≤ 4 → D M (srt S) = D M S
  | [], _ => rfl
  | [a], _ => rfl
  | [a, b], _ => ins1 M a b
  | [a, b, c], _ => by
    show D M (ins a (ins b [c])) = _
    obtain ⟨x, y, e⟩ := ins_two b c
    rw [e, ins2, ← e, ins2z]
  | [a, b, c, d], _ => by
    show D M (ins a (ins b (ins c [d]))) = _
    obtain ⟨x, y, e⟩ := ins_two c d
    obtain ⟨u, v, w, e2⟩ := ins_three b x y
    rw [e, e2, ins4, ← e2, ins3, ← e, ins2zy]
  | _ :: _ :: _ :: _ :: _ :: _, h => absurd h (by simp)
/-- all lists without a number twice, of numbers below 4, of one length -/
def allS (n : Nat) : Nat → List (List Nat)
  | 0 => [[]]
  | k + 1 => (allS n k).flatMap fun r => ((List.range n).filter fun x => x ∉ r).map fun x => x :: r
theorem allS_mem {n : Nat} : ∀ (S : List Nat), S.Nodup → (∀ x ∈ S, x < n) → S ∈ allS n S.length
  | [], _, _ => by simp [allS]
  | x :: r, hn, h => by
    have ih := allS_mem r (List.nodup_cons.mp hn).2 fun y hy => h y (List.mem_cons_of_mem _ hy)
    have hx := (List.nodup_cons.mp hn).1
    show x :: r ∈ (allS n r.length).flatMap _
    refine List.mem_flatMap.mpr ⟨r, ih, List.mem_map.mpr ⟨x, List.mem_filter.mpr ⟨List.mem_range.mpr (h x (by simp)), by simpa using hx⟩, rfl⟩⟩
theorem srt_parts : ∀ n, n ≤ 4 → ∀ k, k ≤ 4 → ∀ S ∈ allS n k, srt S ∈ parts n ∧ (srt S).length = k := by
  intro n hn k hk
  have : ∀ n, n < 5 → ∀ k, k < 5 → ∀ S ∈ allS n k, srt S ∈ parts n ∧ (srt S).length = k := by decide +kernel
  exact this n (by omega) k (by omega)
theorem to_parts {n : Nat} (hn : n ≤ 4) {S : List Nat} (nd : S.Nodup) (lt : ∀ x ∈ S, x < n) (M : Mx) : ∃ S' ∈ parts n, S'.length = S.length ∧ D M S' = D M S := by
  have l := nodup_len n S nd lt
  have q := srt_parts n hn S.length (by omega) S (allS_mem S nd lt)
  exact ⟨srt S, q.1, q.2, srt_D M S (by omega)⟩
/-! a multiple of a table -/
theorem D_mul {n : Nat} {G T : Mx} {k : Rat} (e : ∀ a b, a < n → b < n → G a b = k * T a b) : ∀ S : List Nat, S.length ≤ 4 → (∀ x ∈ S, x < n) → D G S = k ^ S.length * D T S
  | [], _, _ => by simp [D0]
  | [a], _, h => by
    have ha := h a (by simp)
    rw [D1, D1, e a a ha ha]; simp
  | [a, b], _, h => by
    have ha := h a (by simp); have hb := h b (by simp)
    rw [D2, D2, e a a ha ha, e a b ha hb, e b a hb ha, e b b hb hb]
    show _ = k ^ 2 * _
    grind
  | [a, b, c], _, h => by
    have ha := h a (by simp); have hb := h b (by simp); have hc := h c (by simp)
    rw [D3, D3, e a a ha ha, e a b ha hb, e b a hb ha, e b b hb hb, e a c ha hc, e b c hb hc, e c a hc ha, e c b hc hb, e c c hc hc]
    show _ = k ^ 3 * _
    unfold det3; grind
  | [a, b, c, d], _, h => by
    have ha := h a (by simp); have hb := h b (by simp); have hc := h c (by simp); have hd := h d (by simp)
    rw [D4, D4, e a a ha ha, e a b ha hb, e b a hb ha, e b b hb hb, e a c ha hc, e b c hb hc, e c a hc ha, e c b hc hb, e c c hc hc, e a d ha hd, e b d hb hd, e c d hc hd, e d a hd ha, e d b hd hb, e d c hd hc, e d d hd hd]
    show _ = k ^ 4 * _
    unfold det4 det3; grind
  | _ :: _ :: _ :: _ :: _ :: _, h, _ => absurd h (by simp)
theorem pow_pos' {k : Rat} (h : 0 < k) : ∀ n : Nat, 0 < k ^ n
  | 0 => by rw [Rat.pow_zero]; decide
  | n + 1 => by rw [Rat.pow_succ]; exact Rat.mul_pos (pow_pos' h n) h
/-! the law's own words -/
section
variable {n lo : Nat} {G W : Mx} {st : List Stp} {T : Mi} {k : Rat}
theorem det_sign (hn : n ≤ 4) (hk : 0 < k) (e : ∀ a b, a < n → b < n → G a b = k * toR T a b) {S : List Nat} (hS : S ∈ parts n) :
    D G S = k ^ S.length * ((detF S.length (sub T S) : Int) : Rat) ∧ (0 < k ^ S.length) := by
  have p := parts_ok n S hS
  rw [detF_D T S (by omega)]
  exact ⟨D_mul e S (by omega) p.2, pow_pos' hk _⟩
theorem low_of (hn : n ≤ 4) (hk : 0 < k) (e : ∀ a b, a < n → b < n → G a b = k * toR T a b) (h : EI n G W st lo) (np : NP n W none) (hw : ∃ a b, a < n ∧ b < n ∧ W a b ≠ 0) : ∃ S ∈ parts n, detF S.length (sub T S) < 0 := by
  obtain ⟨S, nd, lt, neg⟩ := h.fail hn np hw
  obtain ⟨S', m, _, eq⟩ := to_parts hn nd lt G
  rw [← eq] at neg
  obtain ⟨q, p⟩ := det_sign hn hk e m
  refine ⟨S', m, ?_⟩
  rw [q] at neg
  have : ((detF S'.length (sub T S') : Int) : Rat) < 0 := by
    rcases Rat.le_total (a := 0) (b := ((detF S'.length (sub T S') : Int) : Rat)) with z | z
    · have := Rat.mul_nonneg (Rat.le_of_lt p) z; grind
    · rcases Rat.le_iff_lt_or_eq.mp z with z | z
      · exact z
      · rw [z] at neg; grind
  exact_mod_cast this
theorem good_of (hn : n ≤ 4) (hk : 0 < k) (e : ∀ a b, a < n → b < n → G a b = k * toR T a b) (h : EI n G W st lo) (hw : ∀ a b, a < n → b < n → W a b = 0) :
    (∀ S ∈ parts n, 0 ≤ detF S.length (sub T S)) ∧ (∀ S ∈ parts n, detF S.length (sub T S) ≠ 0 → S.length ≤ st.length) ∧ ∃ S ∈ parts n, S.length = st.length ∧ detF S.length (sub T S) ≠ 0 := by
  obtain ⟨g1, S0, nd, lt, l0, p0⟩ := h.good hn hw
  refine ⟨fun S m => ?_, fun S m ne => ?_, ?_⟩
  · obtain ⟨q, p⟩ := det_sign hn hk e m
    have g := (g1 S (parts_ok n S m).2).1
    rw [q] at g
    have : (0 : Rat) ≤ ((detF S.length (sub T S) : Int) : Rat) := by
      rcases Rat.le_total (a := 0) (b := ((detF S.length (sub T S) : Int) : Rat)) with z | z
      · exact z
      · have z2 := Rat.mul_nonneg (Rat.le_of_lt p) (show (0:Rat) ≤ - ((detF S.length (sub T S) : Int) : Rat) by grind)
        have z3 : k ^ S.length * ((detF S.length (sub T S) : Int) : Rat) = 0 := by grind
        rcases Rat.mul_eq_zero.mp z3 with y | y
        · grind
        · grind
    exact_mod_cast this
  · obtain ⟨q, p⟩ := det_sign hn hk e m
    rcases Nat.lt_or_ge st.length S.length with hl | hl
    · have g := (g1 S (parts_ok n S m).2).2 (by have := (parts_ok n S m).1; omega) hl
      rw [q] at g
      rcases Rat.mul_eq_zero.mp g with y | y
      · grind
      · exact absurd (by exact_mod_cast y) ne
    · exact hl
  · obtain ⟨S', m, l, eq⟩ := to_parts hn nd lt G
    refine ⟨S', m, l.trans l0, fun z => ?_⟩
    obtain ⟨q, p⟩ := det_sign hn hk e m
    rw [z] at q
    rw [eq] at q
    simp at q
    grind
end
end K38
end

section
namespace K38
set_option maxHeartbeats 4000000
set_option maxRecDepth 100000
set_option exponentiation.threshold 100000
/-! Ratio(n, d) -/
theorem rat_eq (q : Rat) : q = (q.num : Rat) / ((q.den : Int) : Rat) := by
  rw [← Rat.divInt_eq_div]; exact (Rat.num_divInt_den q).symm
theorem den_ne (q : Rat) : ((q.den : Int) : Rat) ≠ 0 := by
  have := q.den_pos
  intro h
  have h2 : (q.den : Int) = 0 := by exact_mod_cast h
  omega
theorem mk_num {n d : Int} (hd : 0 < d) : n / ((Nat.gcd n.natAbs d.natAbs : Nat) : Int) = ((n : Rat) / (d : Rat)).num ∧ d / ((Nat.gcd n.natAbs d.natAbs : Nat) : Int) = ((((n : Rat) / (d : Rat)).den : Nat) : Int) := by
  rw [← Rat.divInt_eq_div, Rat.num_divInt, Rat.den_divInt, Int.sign_eq_one_of_pos hd, Int.one_mul, if_neg (by omega)]
  have e : Int.gcd d n = Nat.gcd n.natAbs d.natAbs := by unfold Int.gcd; exact Nat.gcd_comm _ _
  rw [e]
  refine ⟨rfl, ?_⟩
  have hd2 : (d.natAbs : Int) = d := Int.natAbs_of_nonneg (Int.le_of_lt hd)
  rw [Int.natCast_ediv, hd2]
theorem mk_neg {n d : Int} : ((-n : Int) : Rat) / ((-d : Int) : Rat) = (n : Rat) / (d : Rat) := by
  rw [← Rat.divInt_eq_div, ← Rat.divInt_eq_div]; exact Rat.neg_divInt_neg ..
theorem mk_gcd_pos {n d : Int} (hd : 0 < d) : 0 < Nat.gcd n.natAbs d.natAbs ∧ Nat.gcd n.natAbs d.natAbs ≤ d.natAbs := by
  have h : 0 < d.natAbs := by omega
  exact ⟨Nat.gcd_pos_of_pos_right _ h, Nat.gcd_le_right _ h⟩
theorem q_add (a b : Rat) : ((a.num * (b.den : Int) + b.num * (a.den : Int) : Int) : Rat) / (((a.den : Int) * (b.den : Int) : Int) : Rat) = a + b := by
  have ha := den_ne a; have hb := den_ne b
  have ea := rat_eq a; have eb := rat_eq b
  rw [Rat.intCast_add, Rat.intCast_mul, Rat.intCast_mul, Rat.intCast_mul]
  generalize ((a.den : Int) : Rat) = x at *
  generalize ((b.den : Int) : Rat) = y at *
  generalize (a.num : Rat) = u at *
  generalize (b.num : Rat) = v at *
  rw [ea, eb]; grind
theorem q_sub (a b : Rat) : ((a.num * (b.den : Int) - b.num * (a.den : Int) : Int) : Rat) / (((a.den : Int) * (b.den : Int) : Int) : Rat) = a - b := by
  have ha := den_ne a; have hb := den_ne b
  have ea := rat_eq a; have eb := rat_eq b
  rw [Rat.intCast_sub, Rat.intCast_mul, Rat.intCast_mul, Rat.intCast_mul]
  generalize ((a.den : Int) : Rat) = x at *
  generalize ((b.den : Int) : Rat) = y at *
  generalize (a.num : Rat) = u at *
  generalize (b.num : Rat) = v at *
  rw [ea, eb]; grind
theorem q_mul (a b : Rat) : ((a.num * b.num : Int) : Rat) / (((a.den : Int) * (b.den : Int) : Int) : Rat) = a * b := by
  have ha := den_ne a; have hb := den_ne b
  have ea := rat_eq a; have eb := rat_eq b
  rw [Rat.intCast_mul, Rat.intCast_mul]
  generalize ((a.den : Int) : Rat) = x at *
  generalize ((b.den : Int) : Rat) = y at *
  generalize (a.num : Rat) = u at *
  generalize (b.num : Rat) = v at *
  rw [ea, eb]; grind
theorem num_ne {b : Rat} (h : b ≠ 0) : b.num ≠ 0 := fun e => h (Rat.num_eq_zero.mp e)
theorem q_div (a b : Rat) (h : b ≠ 0) : ((a.num * (b.den : Int) : Int) : Rat) / (((a.den : Int) * b.num : Int) : Rat) = a / b := by
  have ha := den_ne a; have hb := den_ne b
  have hn : (b.num : Rat) ≠ 0 := by
    intro e
    exact num_ne h (by exact_mod_cast e)
  have ea := rat_eq a; have eb := rat_eq b
  rw [Rat.intCast_mul, Rat.intCast_mul]
  generalize ((a.den : Int) : Rat) = x at *
  generalize ((b.den : Int) : Rat) = y at *
  generalize (a.num : Rat) = u at *
  generalize (b.num : Rat) = v at *
  rw [ea, eb]; grind
theorem q_half (a : Rat) : ((a.num : Int) : Rat) / ((2 * (a.den : Int) : Int) : Rat) = a / 2 := by
  have ha := den_ne a
  have ea := rat_eq a
  rw [Rat.intCast_mul]
  generalize ((a.den : Int) : Rat) = x at *
  generalize (a.num : Rat) = u at *
  rw [ea]
  show u / (2 * x) = _
  grind
theorem num_pos_iff (q : Rat) : 0 < q.num ↔ 0 < q := by
  have h1 := @Rat.num_nonneg q
  have h2 := @Rat.num_eq_zero q
  constructor
  · intro h
    have : 0 ≤ q := h1.mp (by omega)
    have : q ≠ 0 := fun e => by have := h2.mpr e; omega
    grind
  · intro h
    have a := h1.mpr (by grind)
    have b : q.num ≠ 0 := fun e => by have := h2.mp e; grind
    omega
theorem num_neg_iff (q : Rat) : q.num < 0 ↔ q < 0 := by
  have h1 := @Rat.num_nonneg q
  constructor
  · intro h
    rcases Rat.le_total (a := 0) (b := q) with z | z
    · have := h1.mpr z; omega
    · have : q ≠ 0 := fun e => by rw [e] at h; exact absurd h (by decide)
      grind
  · intro h
    rcases (show q.num < 0 ∨ 0 ≤ q.num by omega) with z | z
    · exact z
    · have := h1.mp z; grind
/-! sizes -/
def Sz (a b : Nat) (q : Rat) : Prop := q.num.natAbs < 2 ^ a ∧ q.den < 2 ^ b
theorem Sz.mono {a b c d : Nat} {q : Rat} (h : Sz a b q) (hac : a ≤ c) (hbd : b ≤ d) : Sz c d q :=
  ⟨Nat.lt_of_lt_of_le h.1 (Nat.pow_le_pow_right (by decide) hac), Nat.lt_of_lt_of_le h.2 (Nat.pow_le_pow_right (by decide) hbd)⟩
theorem sz_div {a b : Nat} {u v : Int} (hv : 0 < v) (hb : v < 2 ^ b) (ha : u.natAbs < 2 ^ a) : Sz a b ((u : Rat) / (v : Rat)) := by
  obtain ⟨e1, e2⟩ := mk_num (n := u) hv
  have g := mk_gcd_pos (n := u) hv
  refine ⟨?_, ?_⟩
  · rw [← e1]
    refine Nat.lt_of_le_of_lt ?_ ha
    rw [Int.natAbs_ediv_of_dvd (Int.ofNat_dvd_left.mpr (Nat.gcd_dvd_left _ _))]
    exact Nat.div_le_self _ _
  · have : ((((u : Rat) / (v : Rat)).den : Nat) : Int) < 2 ^ b := by
      rw [← e2]
      refine Int.lt_of_le_of_lt ?_ hb
      exact Int.ediv_le_self _ (Int.le_of_lt hv)
    exact_mod_cast this
theorem sz_int (q : Rat) {a b : Nat} (h : Sz a b q) : ((q.den : Int)).natAbs < 2 ^ b ∧ q.num.natAbs < 2 ^ a := ⟨by rw [Int.natAbs_natCast]; exact h.2, h.1⟩
theorem p2 (b : Nat) : ((2 ^ b : Nat) : Int) = 2 ^ b := by push_cast; rfl
theorem nat_lt {x : Int} {b : Nat} (h : x.natAbs < 2 ^ b) : x < 2 ^ b := by
  have : ((x.natAbs : Nat) : Int) < ((2 ^ b : Nat) : Int) := by exact_mod_cast h
  rw [p2] at this; omega
theorem mul_lt {x y : Int} {a b : Nat} (hx : x.natAbs < 2 ^ a) (hy : y.natAbs < 2 ^ b) : (x * y).natAbs < 2 ^ (a + b) := by
  rw [Int.natAbs_mul, Nat.pow_add]; exact Nat.mul_lt_mul'' hx hy
theorem sz_mul {a b c d : Nat} {x y : Rat} (hx : Sz a b x) (hy : Sz c d y) : Sz (a + c) (b + d) (x * y) := by
  rw [← q_mul]
  exact sz_div (Int.mul_pos (by have := x.den_pos; omega) (by have := y.den_pos; omega)) (nat_lt (mul_lt (sz_int x hx).1 (sz_int y hy).1)) (mul_lt hx.1 hy.1)
theorem sz_add {a b c d e : Nat} {x y : Rat} (hx : Sz a b x) (hy : Sz c d y) (h1 : a + d < e) (h2 : c + b < e) : Sz e (b + d) (x + y) := by
  rw [← q_add]
  refine sz_div (Int.mul_pos (by have := x.den_pos; omega) (by have := y.den_pos; omega)) (nat_lt (mul_lt (sz_int x hx).1 (sz_int y hy).1)) ?_
  have z1 := mul_lt hx.1 (sz_int y hy).1
  have z2 := mul_lt hy.1 (sz_int x hx).1
  have p1 : 2 ^ (a + d) ≤ 2 ^ (e - 1) := Nat.pow_le_pow_right (by decide) (by omega)
  have p2 : 2 ^ (c + b) ≤ 2 ^ (e - 1) := Nat.pow_le_pow_right (by decide) (by omega)
  have p3 : 2 ^ (e - 1) * 2 = 2 ^ e := by rw [← Nat.pow_succ]; congr 1; omega
  omega
theorem sz_sub {a b c d e : Nat} {x y : Rat} (hx : Sz a b x) (hy : Sz c d y) (h1 : a + d < e) (h2 : c + b < e) : Sz e (b + d) (x - y) := by
  rw [← q_sub]
  refine sz_div (Int.mul_pos (by have := x.den_pos; omega) (by have := y.den_pos; omega)) (nat_lt (mul_lt (sz_int x hx).1 (sz_int y hy).1)) ?_
  have z1 := mul_lt hx.1 (sz_int y hy).1
  have z2 := mul_lt hy.1 (sz_int x hx).1
  have p1 : 2 ^ (a + d) ≤ 2 ^ (e - 1) := Nat.pow_le_pow_right (by decide) (by omega)
  have p2 : 2 ^ (c + b) ≤ 2 ^ (e - 1) := Nat.pow_le_pow_right (by decide) (by omega)
  have p3 : 2 ^ (e - 1) * 2 = 2 ^ e := by rw [← Nat.pow_succ]; congr 1; omega
  omega
theorem sz_zero : Sz 1 1 0 := ⟨by decide, by decide⟩
theorem Com.sz {a b n : Nat} {W : Mx} (h : Com a b n W) {i j : Nat} (hi : i < n) (hj : j < n) : Sz a b (W i j) := by
  obtain ⟨N, d, d0, db, hN⟩ := h
  rw [(hN i j hi hj).2]
  exact sz_div d0 db (hN i j hi hj).1
end K38
end

section
set_option Elab.async false
set_option linter.all false
set_option maxRecDepth 100000
set_option maxHeartbeats 4000000
namespace KW
open PySem L2
/-! ### the text by places -/
def top (i : Nat) : Stmt := PySem.Challenge.pw_metricparts_k38_whole_euclidean_metrics.main.body.getD i (.Pass ⟨0, 0, 0, 0⟩)
/-! ### heaps -/
/-- lists may change, the rest stands -/
def NL (H H' : Hp) : Prop := ∀ b o, H b = some o → (∀ xs, o ≠ .lst xs) → H' b = some o
theorem NL.of {H H' : Hp} (h : Same H H') : NL H H' := fun b o e _ => h b o e
theorem NL.trans {H H1 H2 : Hp} (a : NL H H1) (b : NL H1 H2) : NL H H2 := fun c o h n => b c o (a c o h n) n
theorem NL.upd {H : Hp} {D : Addr} {xs : List V} {o : HO} (h : H D = some (.lst xs)) : NL H (upd H D o) := fun b u e n => by
  have : b ≠ D := fun z => by subst z; rw [h] at e; cases e; exact n xs rfl
  rw [upd_ne this]; exact e
theorem Same.upd {H : Hp} {D : Addr} {o : HO} (h : H D = none) : Same H (upd H D o) := fun b u e => by
  rw [upd_ne (ne_of_none e h)]; exact e
theorem Same.upd' {H H1 : Hp} {D : Addr} {o : HO} (s : Same H H1) (h : H D = none) : Same H (L2.upd H1 D o) := fun b u e => by
  rw [upd_ne (ne_of_none e h)]; exact s _ _ e
theorem Same.tup {K : PySem.W.Frag} {H H' : Hp} {a : Addr} {xs : List V} (e : Same H H') (h : SqT K H a xs) : SqT K H' a xs := by
  rcases h with (h | ⟨o, h⟩) | h
  · exact .inl (.inl (e _ _ h))
  · exact .inl (.inr ⟨o, e _ _ h⟩)
  · exact .inr h
/-! ### what stands there -/
abbrev Rep := Nat → V → Hp → Prop
def Arr (R : Rep) (n : Nat) (vs : List V) (H : Hp) : Prop := vs.length = n ∧ ∀ i v, vs[i]? = some v → R i v H
def LstA (R : Rep) (n : Nat) (v : V) (H : Hp) : Prop := ∃ p vs, v = .ref p ∧ H p = some (.lst vs) ∧ Arr R n vs H
def TupA (R : Rep) (n : Nat) (v : V) (H : Hp) : Prop := ∃ p vs, v = .ref p ∧ H p = some (.tup vs) ∧ Arr R n vs H
def RNL (R : Rep) : Prop := ∀ i v H H', NL H H' → R i v H → R i v H'
def RS (R : Rep) : Prop := ∀ i v H H', Same H H' → R i v H → R i v H'
theorem RNL.rs {R : Rep} (h : RNL R) : RS R := fun i v H H' s => h i v H H' (NL.of s)
theorem Arr.nl {R : Rep} (hR : RNL R) {n : Nat} {vs : List V} {H H' : Hp} (s : NL H H') (h : Arr R n vs H) : Arr R n vs H' := ⟨h.1, fun i v e => hR i v H H' s (h.2 i v e)⟩
theorem Arr.same {R : Rep} (hR : RS R) {n : Nat} {vs : List V} {H H' : Hp} (s : Same H H') (h : Arr R n vs H) : Arr R n vs H' := ⟨h.1, fun i v e => hR i v H H' s (h.2 i v e)⟩
theorem Arr.get {R : Rep} {n : Nat} {vs : List V} {H : Hp} (h : Arr R n vs H) {i : Nat} (hi : i < n) : ∃ v, vs[i]? = some v ∧ R i v H := by
  have : i < vs.length := by rw [h.1]; exact hi
  exact ⟨vs[i], List.getElem?_eq_getElem this, h.2 i _ (List.getElem?_eq_getElem this)⟩
theorem Arr.lt {R : Rep} {n : Nat} {vs : List V} {H : Hp} (h : Arr R n vs H) {i : Nat} {v : V} (e : vs[i]? = some v) : i < n := by
  rw [← h.1]; exact (List.getElem?_eq_some_iff.mp e).1
theorem Arr.nil {R : Rep} {H : Hp} : Arr R 0 [] H := ⟨rfl, fun i v e => by simp at e⟩
theorem Arr.snoc {R : Rep} {n : Nat} {vs : List V} {H : Hp} {v : V} (h : Arr R n vs H) (hv : R n v H) : Arr R (n + 1) (vs ++ [v]) H := by
  refine ⟨by rw [List.length_append, h.1]; rfl, fun i w e => ?_⟩
  rcases Nat.lt_or_ge i vs.length with l | l
  · rw [List.getElem?_append_left l] at e; exact h.2 i w e
  · rw [List.getElem?_append_right l] at e
    have hi : i = vs.length := by
      rcases Nat.eq_zero_or_pos (i - vs.length) with z | z
      · omega
      · have := (List.getElem?_eq_some_iff.mp e).1
        simp at this; omega
    subst hi
    have e2 : v = w := by simpa using e
    subst e2
    rw [h.1]; exact hv
theorem Arr.imp {R R' : Rep} {n : Nat} {vs : List V} {H : Hp} (h : Arr R n vs H) (f : ∀ i v, i < n → R i v H → R' i v H) : Arr R' n vs H := ⟨h.1, fun i v e => f i v (h.lt e) (h.2 i v e)⟩
theorem TupA.nl {R : Rep} (hR : RNL R) {n : Nat} {v : V} {H H' : Hp} (s : NL H H') (h : TupA R n v H) : TupA R n v H' := by
  obtain ⟨p, vs, e, hp, a⟩ := h
  exact ⟨p, vs, e, s _ _ hp (fun xs z => by cases z), a.nl hR s⟩
theorem TupA.same {R : Rep} (hR : RS R) {n : Nat} {v : V} {H H' : Hp} (s : Same H H') (h : TupA R n v H) : TupA R n v H' := by
  obtain ⟨p, vs, e, hp, a⟩ := h
  exact ⟨p, vs, e, s _ _ hp, a.same hR s⟩
theorem LstA.same {R : Rep} (hR : RS R) {n : Nat} {v : V} {H H' : Hp} (s : Same H H') (h : LstA R n v H) : LstA R n v H' := by
  obtain ⟨p, vs, e, hp, a⟩ := h
  exact ⟨p, vs, e, s _ _ hp, a.same hR s⟩
/-- an int -/
def RI (f : Nat → Int) : Rep := fun i v _ => v = .int (f i)
theorem RI.rnl {f : Nat → Int} : RNL (RI f) := fun _ _ _ _ _ h => h
def rowI (n : Nat) (f : Nat → Int) : List V := (List.range n).map fun j => V.int (f j)
theorem rowI_len (n : Nat) (f : Nat → Int) : (rowI n f).length = n := by simp [rowI]
theorem rowI_get {n : Nat} {f : Nat → Int} {i : Nat} (h : i < n) : (rowI n f)[i]? = some (.int (f i)) := by simp [rowI, h]
theorem arr_rowI {n : Nat} {f : Nat → Int} {vs : List V} {H : Hp} (h : Arr (RI f) n vs H) : vs = rowI n f := by
  refine List.ext_getElem? fun i => ?_
  rcases Nat.lt_or_ge i n with l | l
  · obtain ⟨v, e, r⟩ := h.get l
    rw [e, rowI_get l, r]
  · rw [List.getElem?_eq_none (by rw [h.1]; exact l), List.getElem?_eq_none (by rw [rowI_len]; exact l)]
theorem rowI_arr {n : Nat} {f : Nat → Int} {H : Hp} : Arr (RI f) n (rowI n f) H := ⟨rowI_len n f, fun i v e => by
  have l := (List.getElem?_eq_some_iff.mp e).1
  rw [rowI_len] at l
  rw [rowI_get l] at e
  exact (Option.some.inj e).symm⟩
/-- a Ratio of the class at C -/
def rf (q : Rat) : List (Str × V) := [("n", .int q.num), ("d", .int (q.den : Int))]
def IsR (C : Addr) (q : Rat) (v : V) (H : Hp) : Prop := ∃ p dx, v = .ref p ∧ H p = some (.ins C dx (rf q))
theorem IsR.nl {C : Addr} {q : Rat} {v : V} {H H' : Hp} (s : NL H H') (h : IsR C q v H) : IsR C q v H' := by
  obtain ⟨p, dx, e, hp⟩ := h
  exact ⟨p, dx, e, s _ _ hp (fun xs z => by cases z)⟩
def RQ (C : Addr) (f : Nat → Rat) : Rep := fun i v H => IsR C (f i) v H
theorem RQ.rnl {C : Addr} {f : Nat → Rat} : RNL (RQ C f) := fun i v H H' s (h : IsR C (f i) v H) => IsR.nl s h
/-! ### what is walked -/
structure Src (J : It) (n : Nat) (it : Nat → V) (H1 : Hp) : Prop where
  go : ∀ i H, i < n → Same H1 H → J.go i H
  stop : ∀ H, Same H1 H → J.stop n H
  yld : ∀ i x H H', i < n → Same H1 H → J.yld i H x H' → H' = H ∧ x = it i
theorem src_range {lo : Int} {n : Nat} {H1 : Hp} : Src (Itr lo n) n (fun i => .int (lo + i)) H1 := ⟨fun i H h _ => h, fun H _ => Nat.le_refl _, fun i x H H' _ _ y => y⟩
theorem src_list {K : PySem.W.Frag} {a : Addr} {xs : List V} {H1 : Hp} (h : SqL K H1 a xs) : Src (Itl K a) xs.length (fun i => xs.getD i .non) H1 :=
  ⟨fun i H hi s => ⟨xs, xs[i], s.seq h, by simp [hi]⟩, fun H s => ⟨xs, s.seq h, Nat.le_refl _⟩, fun i x H H' hi s y => ⟨y.1, by
    have := y.2 xs (by have e := s.seq h; rw [y.1] at *; exact e)
    simp [List.getD, this]⟩⟩
theorem src_tup {K : PySem.W.Frag} {a : Addr} {xs : List V} {H1 : Hp} (h : SqT K H1 a xs) : Src (Itt K a) xs.length (fun i => xs.getD i .non) H1 :=
  ⟨fun i H hi s => ⟨xs, xs[i], Same.tup s h, by simp [hi]⟩, fun H s => ⟨xs, Same.tup s h, Nat.le_refl _⟩, fun i x H H' hi s y => ⟨y.1, by
    have := y.2 xs (by have e := Same.tup s h; rw [y.1] at *; exact e)
    simp [List.getD, this]⟩⟩
/-- the goal of a comprehension's turns -/
def LcG (J : It) (g : TG) (tt : TT) (te : TE) (vs : List Nat) (σ : St) (H1 : Hp) (Q : VK) : Prop := ∀ D, H1 D = none → ∃ W : Nat → Nat → Hp → Prop, (∃ m, W 0 m (upd H1 D (.lst []))) ∧ ∀ i m H, W i m H →
  (J.stop i H ∧ Q (.ref D) H) ∨ (J.go i H ∧ ∃ Nx : Hp → Prop, (∀ H', Nx H' → ∃ m', m' < m ∧ W (i + 1) m' H') ∧ ∀ x H', J.yld i H x H' → g x (wipe σ vs) H' fun σ2 H2 => wipe σ2 vs = wipe σ vs ∧ tt σ2 H2 fun b H3 =>
    if b = true then te σ2 H3 fun y H4 => ∃ acc, H4 D = some (.lst acc) ∧ acc.length < sizeLine ∧ Nx (upd H4 D (.lst (acc ++ [y]))) else Nx H3)
/-- a comprehension's turns by an invariant of the list made so far; the heap is only added to -/
theorem lc_inv {J : It} {n : Nat} {it : Nat → V} {g : TG} {tt : TT} {te : TE} {vs : List Nat} {σ : St} {H1 : Hp} {Q : VK} (S : Src J n it H1) (hn : n ≤ 100000)
    (Pv : Nat → Addr → List V → Hp → Prop) (h0 : ∀ D, H1 D = none → Pv 0 D [] (upd H1 D (.lst [])))
    (hs : ∀ i D acc H, i < n → H1 D = none → H D = some (.lst acc) → Same H1 H → acc.length ≤ i → Pv i D acc H →
      ∀ (Nx : Hp → Prop), (∀ acc' H', H' D = some (.lst acc') → Same H1 H' → acc'.length ≤ i + 1 → Pv (i + 1) D acc' H' → Nx H') →
      g (it i) (wipe σ vs) H fun σ2 H2 => wipe σ2 vs = wipe σ vs ∧ tt σ2 H2 fun b H3 =>
        if b = true then te σ2 H3 fun y H4 => ∃ acc, H4 D = some (.lst acc) ∧ acc.length < sizeLine ∧ Nx (upd H4 D (.lst (acc ++ [y]))) else Nx H3)
    (hd : ∀ D acc H, H1 D = none → H D = some (.lst acc) → Same H1 H → acc.length ≤ n → Pv n D acc H → Q (.ref D) H) : LcG J g tt te vs σ H1 Q := by
  intro D hD
  refine ⟨fun i m H => m = n - i ∧ i ≤ n ∧ ∃ acc, H D = some (.lst acc) ∧ Same H1 H ∧ acc.length ≤ i ∧ Pv i D acc H, ⟨n, by simp, Nat.zero_le _, [], upd_same, Same.upd hD, Nat.le_refl _, h0 D hD⟩, ?_⟩
  rintro i m H ⟨rfl, hi, acc, hA, sm, hl, p⟩
  by_cases hlt : i < n
  · refine .inr ⟨S.go i H hlt sm, fun H' => ∃ acc', H' D = some (.lst acc') ∧ Same H1 H' ∧ acc'.length ≤ i + 1 ∧ Pv (i + 1) D acc' H', fun H' ⟨acc', a, b, c, d⟩ => ⟨n - (i + 1), by omega, rfl, hlt, acc', a, b, c, d⟩, fun x H' y => ?_⟩
    obtain ⟨rfl, rfl⟩ := S.yld i x H H' hlt sm y
    exact hs i D acc _ hlt hD hA sm hl p _ fun acc' H' a b c d => ⟨acc', a, b, c, d⟩
  · have e : i = n := by omega
    subst e
    exact .inl ⟨S.stop H sm, hd D acc H hD hA sm hl p⟩
/-- a list made item by item, of things that no list's change touches -/
theorem lcN {J : It} {n : Nat} {it : Nat → V} {i0 : Nat} {te : TE} {vs : List Nat} {σ : St} {H1 : Hp} {Q : VK} (S : Src J n it H1) (hn : n ≤ 100000) {R : Rep} (hR : RNL R)
    (hw : ∀ x, wipe ((wipe σ vs).set i0 (some x)) vs = wipe σ vs)
    (hs : ∀ i H, i < n → Same H1 H → ∀ Qk : VK, (∀ y H', Same H H' → R i y H' → Qk y H') → te ((wipe σ vs).set i0 (some (it i))) H Qk)
    (hd : ∀ D H ys, Same H1 H → H1 D = none → H D = some (.lst ys) → Arr R n ys H → Q (.ref D) H) : LcG J (gName i0) tYes te vs σ H1 Q := by
  refine lc_inv S hn (fun i D acc H => Arr R i acc H) (fun D hD => Arr.nil) ?_ (fun D acc H hD hA sm hl p => hd D H acc sm hD hA p)
  intro i D acc H hi hD hA sm hl p Nx hN
  refine ⟨hw _, ?_⟩
  show te ((wipe σ vs).set i0 (some (it i))) H (fun y H4 => ∃ acc, H4 D = some (.lst acc) ∧ acc.length < sizeLine ∧ Nx (upd H4 D (.lst (acc ++ [y]))))
  refine hs i H hi sm _ fun y H' sm' r => ?_
  have hA' := sm' _ _ hA
  refine ⟨acc, hA', Nat.lt_of_le_of_lt hl (Nat.lt_of_lt_of_le hi (Nat.le_trans hn (by decide))), ?_⟩
  have nl : NL H' (upd H' D (.lst (acc ++ [y]))) := NL.upd hA'
  refine hN _ _ upd_same (Same.upd' (sm.trans sm') hD) ?_ ((p.nl hR ((NL.of sm').trans nl)).snoc (hR _ _ _ _ nl r))
  rw [List.length_append]; show _ + 1 ≤ _; omega
/-- new lists, one beside the other -/
def NewL (R : Nat → Rep) (m : Nat → Nat) (ps : List Addr) (H : Hp) : Prop := ps.Nodup ∧ ∀ (i : Nat) (p : Addr), ps[i]? = some p → ∃ vs, H p = some (.lst vs) ∧ Arr (R i) (m i) vs H
/-- a list made of new lists -/
theorem lcL {J : It} {n : Nat} {it : Nat → V} {i0 : Nat} {te : TE} {vs : List Nat} {σ : St} {H1 : Hp} {Q : VK} (S : Src J n it H1) (hn : n ≤ 100000) {R : Nat → Rep} {m : Nat → Nat} (hR : ∀ i, RNL (R i))
    (hw : ∀ x, wipe ((wipe σ vs).set i0 (some x)) vs = wipe σ vs)
    (hs : ∀ i H, i < n → Same H1 H → ∀ Qk : VK, (∀ p us H', Same H H' → H p = none → H' p = some (.lst us) → Arr (R i) (m i) us H' → Qk (.ref p) H') → te ((wipe σ vs).set i0 (some (it i))) H Qk)
    (hd : ∀ D H ps, Same H1 H → H1 D = none → H D = some (.lst (ps.map V.ref)) → ps.length = n → D ∉ ps → (∀ p ∈ ps, H1 p = none) → NewL R m ps H → Q (.ref D) H) : LcG J (gName i0) tYes te vs σ H1 Q := by
  refine lc_inv S hn (fun i D acc H => ∃ ps : List Addr, acc = ps.map V.ref ∧ ps.length = i ∧ D ∉ ps ∧ (∀ p ∈ ps, H1 p = none) ∧ NewL R m ps H)
    (fun D hD => ⟨[], rfl, rfl, by simp, by simp, List.nodup_nil, fun i p e => by simp at e⟩) ?_ (fun D acc H hD hA sm hl p => ?_)
  · intro i D acc H hi hD hA sm hl p Nx hN
    obtain ⟨ps, rfl, hlen, hDn, hfr, nd, hp⟩ := p
    refine ⟨hw _, ?_⟩
    show te ((wipe σ vs).set i0 (some (it i))) H (fun y H4 => ∃ acc, H4 D = some (.lst acc) ∧ acc.length < sizeLine ∧ Nx (upd H4 D (.lst (acc ++ [y]))))
    refine hs i H hi sm _ fun q us H' sm' fr hq r => ?_
    have hA' := sm' _ _ hA
    refine ⟨ps.map V.ref, hA', Nat.lt_of_le_of_lt hl (Nat.lt_of_lt_of_le hi (Nat.le_trans hn (by decide))), ?_⟩
    have nl : NL H' (upd H' D (.lst (ps.map V.ref ++ [.ref q]))) := NL.upd hA'
    have qD : q ≠ D := (ne_of_none hA fr).symm
    have qn : q ∉ ps := fun hm => by
      obtain ⟨j, hj, e⟩ := List.mem_iff_getElem.mp hm
      obtain ⟨vs', h1, _⟩ := hp j q (by rw [List.getElem?_eq_getElem hj, e])
      rw [fr] at h1; cases h1
    refine hN _ _ upd_same (Same.upd' (sm.trans sm') hD) ?_ ⟨ps ++ [q], by rw [List.map_append]; rfl, by rw [List.length_append, hlen]; rfl, ?_, ?_, ?_, ?_⟩
    · rw [List.length_append, List.length_map]; show _ + 1 ≤ _; omega
    · intro hm
      rcases List.mem_append.mp hm with hm | hm
      · exact hDn hm
      · exact qD (List.mem_singleton.mp hm).symm
    · intro p' hm
      rcases List.mem_append.mp hm with hm | hm
      · exact hfr p' hm
      · rw [List.mem_singleton.mp hm]; exact sm.free fr
    · exact List.nodup_append.mpr ⟨nd, by simp, fun a ha b hb z => by
        have hb' := List.mem_singleton.mp hb
        rw [hb'] at z; rw [z] at ha; exact qn ha⟩
    · intro j p' e
      rcases Nat.lt_or_ge j ps.length with l | l
      · rw [List.getElem?_append_left l] at e
        obtain ⟨vs', h1, h2⟩ := hp j p' e
        have pD : p' ≠ D := fun z => hDn (by rw [← z]; exact List.mem_of_getElem? e)
        exact ⟨vs', by rw [upd_ne pD]; exact sm' _ _ h1, h2.nl (hR j) ((NL.of sm').trans nl)⟩
      · rw [List.getElem?_append_right l] at e
        have hj : j = ps.length := by
          have := (List.getElem?_eq_some_iff.mp e).1
          simp at this; omega
        subst hj
        have e2 : q = p' := by simpa using e
        subst e2
        rw [hlen]
        exact ⟨us, by rw [upd_ne qD]; exact hq, r.nl (hR i) nl⟩
  · obtain ⟨ps, rfl, hlen, hDn, hfr, nl⟩ := p
    exact hd D H ps sm hD hA hlen hDn hfr nl
/-- those items that a test keeps -/
theorem lcF {J : It} {n : Nat} {it : Nat → V} {i0 : Nat} {tt : TT} {te : TE} {vs : List Nat} {σ : St} {H1 : Hp} {Q : VK} (S : Src J n it H1) (hn : n ≤ 100000) (p : Nat → Bool)
    (hw : ∀ x, wipe ((wipe σ vs).set i0 (some x)) vs = wipe σ vs)
    (ht : ∀ i H, i < n → Same H1 H → ∀ Qb : Bool → Hp → Prop, (∀ H', Same H H' → Qb (p i) H') → tt ((wipe σ vs).set i0 (some (it i))) H Qb)
    (he : ∀ i H, i < n → Same H1 H → ∀ Qk : VK, Qk (it i) H → te ((wipe σ vs).set i0 (some (it i))) H Qk)
    (hd : ∀ D H, Same H1 H → H1 D = none → H D = some (.lst (((List.range n).filter p).map it)) → Q (.ref D) H) : LcG J (gName i0) tt te vs σ H1 Q := by
  refine lc_inv S hn (fun i D acc H => acc = ((List.range i).filter p).map it) (fun D hD => rfl) ?_ (fun D acc H hD hA sm hl e => hd D H sm hD (by rw [hA, e]))
  intro i D acc H hi hD hA sm hl e Nx hN
  refine ⟨hw _, ?_⟩
  refine ht i H hi sm _ fun H' sm' => ?_
  have hA' := sm' _ _ hA
  cases hp : p i with
  | true =>
    refine iteT ?_
    refine he i H' hi (sm.trans sm') _ ?_
    refine ⟨acc, hA', Nat.lt_of_le_of_lt hl (Nat.lt_of_lt_of_le hi (Nat.le_trans hn (by decide))), hN _ _ upd_same (Same.upd' (sm.trans sm') hD) ?_ ?_⟩
    · rw [List.length_append]; show _ + 1 ≤ _; omega
    · rw [e, List.range_succ, List.filter_append, List.map_append]
      simp [hp]
  | false =>
    refine iteF ?_
    refine hN acc H' hA' (sm.trans sm') (by omega) ?_
    rw [e, List.range_succ, List.filter_append, List.map_append]
    simp [hp]
end KW
end

section
set_option Elab.async false
set_option linter.all false
set_option maxRecDepth 100000
set_option maxHeartbeats 4000000
namespace KW
open PySem PySem.Spec PyProof.Rows L2
section
variable {X : Cx} {CX : CXT} {k : Nat} {C f : Addr} {fd : FuncData} {ps : List Str} {sp : Sp} {E : XK}
/-- x op y by the left one's own method -/
def rOwn (C : Addr) (sp : Sp) (E : XK) : R2 := fun x y H Q => ∃ a b dx dy fs gs, x = .ref a ∧ y = .ref b ∧ H a = some (.ins C dx fs) ∧ H b = some (.ins C dy gs) ∧ sp [.ref a, .ref b] H Q E
theorem op_own {op : Operator} (F : FnOk X.prog X.w X.K X.mg X.base CX k f fd ps sp) (hc : PySem.W.selfFirst X.K C = true)
    (hs : PySem.W.findIn X.K (.ref C) (PySem.dunder op.info.2) = some (some (.ref f))) (hf : PySem.W.isFn X.K (.ref f) = true) (hb : Binds X.K fd ps []) (hx : Passes CX X E) (hr : Room k X.A) : OpR X (binaryOp op) (rOwn C sp E) := by
  intro pins s σ H x y u v Q I rx ry d
  obtain ⟨a, b, dx, dy, fs, gs, rfl, rfl, ha, hb', hsp⟩ := d
  cases rx
  cases ry
  obtain ⟨mA, J, _⟩ := ins_get I.hok ha
  obtain ⟨mB, J', _⟩ := ins_get I.hok hb'
  obtain ⟨od, J, _⟩ := J.look
  obtain ⟨od', J', _⟩ := J'.look
  obtain ⟨m, hF⟩ := I.fr
  refine PySem.W.binop_K hF I.ok.mod.kin J J'.type hc hs hf ?_
  have hl := F.len _ _ _ _ hsp
  have r2 : Vals [V.ref a, V.ref b] [Value.ref a, Value.ref b] := .cons rfl (.cons rfl .nil)
  refine wpAny_call (codeAny_mono (F.run X.A X.stack s H ⟨[.ref a, .ref b], []⟩ [.ref a, .ref b] [.ref a, .ref b] _ E hr I.env0 (by
    have := hb s [.ref a, .ref b] I.kIn (by simpa using hl)
    simpa using this) r2 hsp) fun r s' hq => ?_)
  cases r with
  | error e => exact hx pins σ H s e s' I hq
  | ok fl =>
    cases fl with
    | ret w =>
      obtain ⟨z, H', I', rz, q⟩ := I.after hq
      have fin : EP X pins σ Q w s' := ⟨z, H', I', rz, q⟩
      cases z with
      | non => cases rz; exact fin
      | bl b => cases rz; exact fin
      | int i => obtain ⟨t, rfl⟩ := rz; exact fin
      | str i => obtain ⟨t, rfl⟩ := rz; exact fin
      | byt i => obtain ⟨t, rfl⟩ := rz; exact fin
      | flt i => obtain ⟨t, rfl⟩ := rz; exact fin
      | ref i => cases rz; exact fin
      | ty i => cases rz; exact fin
    | next => exact False.elim hq
    | brk => exact False.elim hq
    | cont => exact False.elim hq
end
end KW
end

section
set_option Elab.async false
set_option linter.all false
set_option maxRecDepth 100000
set_option maxHeartbeats 4000000
namespace KWN
open PySem PySem.W PyProof.Rows
section
variable {prog : Program} {w : World} {A : Around} {E : Value → Shared → Prop} {K : Frag} {x y C f : Addr} {ox : Obj} {od : Option Obj}
theorem ifBound_B {M : Model} {s : Shared} {name : Str} {T id : String} {nm : Str} {args : List Value} {Q : Option Value → Shared → Prop} (X : K.In s.heap) (I : InstAt s.heap x ox C od) (hs : findIn K (.ref C) name = some (some (.builtin id))) (sl : Slot T nm id)
    (h : wpAny M A (call (.builtin id) (.ref x :: args)) (fun v => Q (some v)) E s) : wpAny M A (callSpecialIfBound? (.ref x) name args) Q E s := by
  simp only [callSpecialIfBound?, bindSpecialIfBound?]
  refine wpAny_holding (wpAny_bind (wpAny_bind (wpAny_bind (I.type.here ((looks_findIn X hs).here ?_)))))
  refine wpAny_bind (wpAny_askSetting (wpAny_ite ?_))
  have fin : wpAny M A (call (.builtin id) ([.ref x] ++ args) >>= fun v => pure (some v)) Q E s := wpAny_bind (wpAny_mono h (fun v s' h' => wpAny_pure h') fun _ _ h' => h')
  split
  · exact wpAny_bind (wpAny_of_eq (sl.bind _) (wpAny_pure (by exact fin)))
  · exact wpAny_tryCatch (wpAny_bind (wpAny_of_eq (sl.bind _) (wpAny_pure (by exact fin))))
theorem objNe_body {h : Heap} {g : Array GenState} {d : Drawn} {t : Nat} {os : OsState} (hu : A.units < cLine) (X : K.In h) (I : InstAt h x ox C od) (hs : findIn K (.ref C) "__eq__" = some (some (.ref f))) (hf : isFn K (.ref f) = true) {Q : Fin → Shared → Prop}
    (hcall : wpAny (model prog w) A (call (.ref f) [.ref x, .ref y]) (fun v s' => ∃ b, v = .bool b ∧ Q (.done (.ret (.bool (!b)))) s') E ⟨h, g, d, t, os⟩) :
    wpAny (model prog w) A (Builtin.«object.__ne__» ⟨[.ref x, .ref y], []⟩) Q E ⟨h, g, d, t, os⟩ := by
  unfold Builtin.«object.__ne__»
  repeat (first
    | with_reducible refine wpAny_cRoomFor hu ?_
    | (refine wpAny_bind (m := callSpecialIfBound? (.ref x) (Str.ofString "__eq__") [.ref y])
        (ifBound_K (s := ⟨h, g, d, t, os⟩) X I hs hf (wpAny_mono hcall (fun r s' hr => by
          obtain ⟨b, rfl, hq⟩ := hr
          repeat (first | exact hq | exact wpAny_pure hq | exact wpAny_truthy_bool hq | (refine wpAny_bind (m := truthy (.bool _)) (wpAny_truthy_bool ?_)) | wp_step)) fun _ _ e => e)))
    | wp_step)
theorem ne_K {s : Shared} {L : Addr} {h₀ : Heap} {m : Str → Option Value} {Q : Value → Shared → Prop} (hu : A.units + 1 < cLine) (hF : Fr h₀ L s.heap m) (X₀ : K.In h₀) (I : InstAt s.heap x ox C od) (hb : Looks (model prog w) s.heap (typeOf (.ref y)) (.ref C))
    (hn : findIn K (.ref C) "__ne__" = some (some (.builtin "object.__ne__"))) (hs : findIn K (.ref C) "__eq__" = some (some (.ref f))) (hf : isFn K (.ref f) = true) (mo : mroIn K C (.type "object") = some true)
    (h : wpAny (model prog w) A.in1 (call (.ref f) [.ref x, .ref y]) (fun v s' => ∃ b, v = .bool b ∧ Q (.bool (!b)) s') E s) : wpAny (model prog w) A (richCompare .NotEq (.ref x) (.ref y)) Q E s := by
  have X := X₀.keeps hF.keep
  have sub : Looks (model prog w) s.heap (isInstance (.ref x) (.type "object")) true := I.type.andThen (looks_mroIn X mo)
  have one : wpAny (model prog w) A (tryCompare (.ref x) "__ne__" (.ref y)) (fun r s' => ∃ v, r = some v ∧ Q v s') E s := by
    unfold tryCompare
    refine wpAny_bind (ifBound_B X I hn F.slot_object_ne (wpAny_call (codeAny_call_builtin F.slot_object_ne.plain F.entry_object_ne
      (check_slot F.cmpKind_ne F.cmpSplit_ne sub (F.cmpArgs_ne _ _) ?_))))
    obtain ⟨hp, g, d, t, os⟩ := s
    refine objNe_body (A := A.in1) (by first | exact hu | omega) X I hs hf (wpAny_mono h (fun v s' hv => ?_) fun _ _ e => e)
    obtain ⟨b, rfl, hq⟩ := hv
    first | exact ⟨b, rfl, wpAny_pure ⟨_, rfl, hq⟩⟩ | exact ⟨b, rfl, wpAny_pure (wpAny_pure ⟨_, rfl, hq⟩)⟩ | exact ⟨b, rfl, ⟨_, rfl, hq⟩⟩
  unfold richCompare
  simp only [oneThing_ref]
  refine wpAny_holding (wpAny_bind (wpAny_cRoomFor (by omega) ?_))
  rw [cmpInfo_NotEq]
  dsimp only
  refine wpAny_bind (I.type.here (wpAny_bind (hb.here ?_)))
  rw [show (Value.ref C != Value.ref C) = false from by simp]
  simp only [Bool.false_eq_true, if_false]
  refine wpAny_bind (wpAny_pure ?_)
  simp only [Bool.false_eq_true, if_false]
  refine wpAny_bind (wpAny_mono one (fun r s' z => ?_) fun _ _ e => e)
  obtain ⟨v, rfl, hq⟩ := z
  exact wpAny_pure hq
end
end KWN
end

section
set_option Elab.async false
set_option linter.all false
set_option maxRecDepth 100000
set_option maxHeartbeats 4000000
namespace KWN
open PySem PySem.SeqAt
open AutoSeq1 (wpAny_loadPart')
open MeetsSeq MeetsSeq2 MeetsSeq3 SeqRoads2
section
variable {prog : Program} {w : World} {A : Around} {R : Result → Shared → Prop} {E : Value → Shared → Prop}
/-- tuple.__ne__ where all items are equal: no -/
theorem tup_ne_body (l b : Addr) (xs ys : Array Value) (n n2 : Nat) (dd dd2 : Option Addr) (sl sl2 : Array (Option Value)) (hsz : xs.size = ys.size) (I : Nat → Shared → Prop)
    (turn : ∀ i (h1 : i < xs.size) (h2 : i < ys.size) s, I i s → wpAny (model prog w) A.in1 (eqBool xs[i] ys[i]) (fun r s' => r = true ∧ I (i + 1) s') (fun e s' => R (.error e) s') s)
    (fin : ∀ s, I xs.size s → R (.ok (.ret (.bool false))) s) {s : Shared} (hl1 : s.heap.get? l = some { cls := .type "tuple", dict := dd, data := .seq xs n, slots := sl }) (hb1 : s.heap.get? b = some { cls := .type "tuple", dict := dd2, data := .seq ys n2, slots := sl2 }) (h : I 0 s) :
    wpAny (model prog w) A.in1 (Builtin.«tuple.__ne__» ⟨[.ref l, .ref b], []⟩) (GQ.FinOf prog w A R) (fun e s' => R (.error e) s') s := by
  have f2 := AutoSeq1.sub_tuple_tuple
  have hZ : (xs.toList.zip ys.toList).length = xs.size := by simp [hsz]
  have h0 := h
  obtain ⟨hp, g, d, tk, os⟩ := s
  wp_walk using wpAny_loadPart' hl1, wpAny_loadPart' hb1, wpAny_forIn_list _ (fun rest b s' => b.1 = none ∧ ∃ i, rest = (xs.toList.zip ys.toList).drop i ∧ i ≤ xs.size ∧ I i s') _
  case turn =>
    rintro ⟨y, x⟩ rest b s' ⟨hb', i, hz, hi, hI⟩
    have hlt : i < (xs.toList.zip ys.toList).length := Nat.lt_of_not_le fun h' => by
      rw [List.drop_of_length_le h'] at hz
      cases hz
    have h1 : i < xs.size := hZ ▸ hlt
    have h2 : i < ys.size := hsz ▸ h1
    rw [List.drop_eq_getElem_cons hlt] at hz
    injection hz with hyx hrest
    have hy : y = xs[i] := by simpa using congrArg Prod.fst hyx
    have hx : x = ys[i] := by simpa using congrArg Prod.snd hyx
    subst hy hx
    refine wpAny_bind (wpAny_mono (turn i h1 h2 s' hI) (fun r s2 q2 => ?_) fun _ _ x => x)
    obtain ⟨hr, q2⟩ := q2
    subst hr
    wp_walk
    exact ⟨rfl, i + 1, hrest, h1, q2⟩
  case fin =>
    rintro ⟨b1, b2⟩ s' ⟨hb', i, hz, hi, hI⟩
    simp only at hb'
    subst hb'
    have hge : xs.size ≤ i := Nat.le_of_not_lt fun h' => by
      rw [List.drop_eq_getElem_cons (hZ ▸ h')] at hz
      cases hz
    have hi' : i = xs.size := by omega
    have hR : R (.ok (.ret (.bool false))) s' := fin s' (hi' ▸ hI)
    wp_walk
    simpa [Builtin.Tuple.tupleCompareSizes, hsz, bne] using hR
  case h =>
    exact ⟨rfl, 0, rfl, Nat.zero_le _, h0⟩
theorem rc_neTup {l b : Addr} {xs ys : Array Value} {s : Shared} {Q : Value → Shared → Prop} (hsz : xs.size = ys.size) (hu : A.units < cLine) (I : Nat → Shared → Prop)
    (hl : s.heap.IsTuple l xs) (hb : s.heap.IsTuple b ys)
    (turn : ∀ i (h1 : i < xs.size) (h2 : i < ys.size) s, I i s → wpAny (model prog w) A.in1 (eqBool xs[i] ys[i]) (fun r s' => r = true ∧ I (i + 1) s') E s)
    (fin : ∀ s, I xs.size s → Q (.bool false) s) (h : I 0 s) : wpAny (model prog w) A (richCompare .NotEq (.ref l) (.ref b)) Q E s := by
  obtain ⟨⟨cls, dd, data, sl⟩, ho, hc, n, hd⟩ := id hl
  obtain ⟨⟨cls2, dd2, data2, sl2⟩, ho2, hc2, n2, hd2⟩ := id hb
  simp only at hc hd hc2 hd2
  subst hc hd hc2 hd2
  refine wpAny_richCompare_same_room (op := .NotEq) ⟨_, ho, rfl⟩ ⟨_, ho2, rfl⟩ F.slot_tuple_ne (GQ.call_here F.slot_tuple_ne ⟨_, ho, rfl⟩ F.entry_tuple_ne (F.args_tuple_ne_2 _ _) ?_) hu
  exact tup_ne_body (R := wants (fun v s' => v ≠ .notImplemented ∧ Q v s') E) l b xs ys n n2 dd dd2 sl sl2 hsz I turn (fun s' q => ⟨(fun x => nomatch x), fin s' q⟩) ho ho2 h
end
end KWN
namespace KW
open PySem PySem.Spec PyProof.Rows L2
section
variable {X : Cx} {n : Nat} {D : Eqv} {CX : CXT} {C f : Addr} {fd : FuncData} {ps : List Str} {E : XK}
/-- x != y of what == holds: no -/
def rNeG (D : Eqv) : R2 := fun x y H Q => D x y H ∧ ∀ H', Ext H H' → Q (.bl false) H'
theorem op_neTup (hD : Mon D) (h : EqG X n D) (hr : Room (n + 1) X.A) : OpR X (compareOp .NotEq) (rNeG (DTup X.K D)) := by
  intro pins s σ H x y v u Q I rx ry hq
  obtain ⟨⟨a, b, xs, ys, rfl, rfl, ha, hb, p⟩, q⟩ := hq
  show wpAny (model X.prog X.w) X.A (richCompare .NotEq v u) (EP X pins σ Q) X.xe s
  cases rx
  cases ry
  obtain ⟨its, r, e, z⟩ := I.tuple ha
  obtain ⟨its2, r2, e2, z2⟩ := I.tuple hb
  have hsz : its.toArray.size = its2.toArray.size := by rw [List.size_toArray, List.size_toArray, ← r.length, ← r2.length]; exact p.1
  have sb : L2.Sub X (n + 1) X.A := ⟨hr, rfl⟩
  exact KWN.rc_neTup hsz sb.room.units0 (fun _ s' => LoopI X pins σ H s') e e2 (fun i h1 h2 s' q => turnG hD h sb p r r2 i h1 h2 s' q) (fun s' ⟨H', I', ex⟩ => ⟨.bl false, H', I', rfl, q H' ex⟩) ⟨H, I, Ext.rfl'⟩
theorem op_neIns {R : Addr → Addr → Hp → Prop} (F : FnOk X.prog X.w X.K X.mg X.base CX n f fd ps (spEq R)) (hn : PySem.W.findIn X.K (.ref C) "__ne__" = some (some (.builtin "object.__ne__")))
    (hs : PySem.W.findIn X.K (.ref C) "__eq__" = some (some (.ref f))) (hf : PySem.W.isFn X.K (.ref f) = true) (mo : PySem.W.mroIn X.K C (.type "object") = some true) (hb : Binds X.K fd ps []) (hx : Passes CX X E) (hr : Room (n + 1) X.A) : OpR X (compareOp .NotEq) (rNeG (DIns C R)) := by
  intro pins s σ H x y v u Q I rx ry hq
  obtain ⟨⟨a, b, dx, dy, fs, gs, rfl, rfl, ha, hb', hR⟩, q⟩ := hq
  show wpAny (model X.prog X.w) X.A (richCompare .NotEq v u) (EP X pins σ Q) X.xe s
  cases rx
  cases ry
  obtain ⟨mA, J, _⟩ := ins_get I.hok ha
  obtain ⟨mB, J', _⟩ := ins_get I.hok hb'
  obtain ⟨od, J, _⟩ := J.look
  obtain ⟨od', J', _⟩ := J'.look
  obtain ⟨m, hF⟩ := I.fr
  have sb : L2.Sub X (n + 1) X.A := ⟨hr, rfl⟩
  refine KWN.ne_K (hu_of hr) hF I.ok.mod.kin J J'.type hn hs hf mo ?_
  have hsp : spEq R [.ref a, .ref b] H (fun v H' => v = .bl true ∧ Ext H H') E := ⟨a, b, rfl, hR, fun H' e => ⟨rfl, e⟩⟩
  have e0 : Env0 X.prog X.w X.K X.mg X.base X.A.in1 X.stack s H := I.env0.in1
  have hl := F.len _ _ _ _ hsp
  have r2 : Vals [V.ref a, V.ref b] [Value.ref a, Value.ref b] := .cons rfl (.cons rfl .nil)
  refine wpAny_call (codeAny_mono (F.run X.A.in1 X.stack s H ⟨[.ref a, .ref b], []⟩ [.ref a, .ref b] [.ref a, .ref b] _ E sb.in1.room e0 (by
    have := hb s [.ref a, .ref b] I.kIn (by simpa using hl)
    simpa using this) r2 hsp) fun r s' hq => ?_)
  cases r with
  | error e => exact hx pins σ H s e s' I hq
  | ok fl =>
    cases fl with
    | ret w =>
      obtain ⟨z, H', I', rz, ez, ex⟩ := I.after hq
      subst ez
      cases rz
      exact ⟨true, rfl, .bl false, H', I', rfl, q H' ex⟩
    | next => exact False.elim hq
    | brk => exact False.elim hq
    | cont => exact False.elim hq
end
end KW
end

section
set_option Elab.async false
set_option linter.all false
set_option maxRecDepth 100000
set_option maxHeartbeats 4000000
namespace KWT
open PySem PySem.Spec PyProof.Rows
/-- a tuple of one thing, once: itself -/
theorem mul_one (l : Addr) (v : Value) (n : Nat) (dd : Option Addr) (sl : Array (Option Value)) (u : Tok) :
    Meets (Builtin.«tuple.__mul__» ⟨[.ref l, .int 1 u], []⟩) (fun _ R s => s.heap.get? l = some { cls := .type "tuple", dict := dd, data := .seq #[v] n, slots := sl } ∧ R (.ok (.ret (Value.ref l))) s) :=
  .of_wp fun prog w A R s h => by
    obtain ⟨hp, g, d, tk, os⟩ := s
    obtain ⟨hl, h⟩ := h
    have f1 := AutoSeq1.idx_int
    wp_walk using wpAny_loadPart' hl
    exact ⟨_, rfl, h⟩
theorem mul_zero (l : Addr) (v : Value) (n : Nat) (dd : Option Addr) (sl : Array (Option Value)) (u : Tok) :
    Meets (Builtin.«tuple.__mul__» ⟨[.ref l, .int 0 u], []⟩) (fun _ R s => s.heap.get? l = some { cls := .type "tuple", dict := dd, data := .seq #[v] n, slots := sl } ∧
      R (.ok (.ret (Value.ref s.heap.objs.size))) { s with heap := s.heap.push { cls := Value.type "tuple", data := Data.seq #[] }, toks := s.toks }) :=
  .of_wp fun prog w A R s h => by
    obtain ⟨hp, g, d, tk, os⟩ := s
    obtain ⟨hl, h⟩ := h
    have f1 := AutoSeq1.idx_int
    wp_walk using wpAny_loadPart' hl
    exact ⟨_, rfl, h⟩
end KWT
namespace KW
open PySem PySem.Spec PyProof.Rows L2
section
variable {X : Cx}
/-- (x,) * k, 0 ≤ k -/
def rRep1 : R2 := fun x y H Q => ∃ (l : Addr) (k : Int) (v : V), x = .ref l ∧ y = .int k ∧ H l = some (.tup [v]) ∧ 0 ≤ k ∧ k ≤ 1000 ∧ ∀ p H', Same H H' → H' p = some (.tup (List.replicate k.toNat v)) → Q (.ref p) H'
theorem flat_rep (k : Nat) (v : V) : (List.replicate k [v]).flatten = List.replicate k v := by
  induction k with
  | zero => rfl
  | succ k ih => rw [List.replicate_succ, List.flatten_cons, ih, List.replicate_succ]; rfl
theorem op_rep1 : OpR X (binaryOp .Mult) rRep1 := by
  intro pins s σ H x y v u Q I rx ry h
  obtain ⟨l, k, a, rfl, rfl, hT, h0, h1, q⟩ := h
  by_cases h2 : 2 ≤ k
  · refine op_repT pins s σ H _ _ v u Q I rx ry ⟨l, k, [a], rfl, rfl, SqT.of hT, by simp, h2, h1, by simp, fun p hp => q p _ (Same.upd hp) ?_⟩
    rw [upd_same, flat_rep]
  · cases rx
    obtain ⟨t, rfl⟩ := ry
    obtain ⟨its, r, ⟨⟨cls, dd, data, sl⟩, ho, hc, n, hd⟩, hs⟩ := I.tuple (SqT.of hT)
    simp only at hc hd
    subst hc hd
    obtain ⟨b, rfl⟩ : ∃ b, its = [b] := by
      cases r with
      | cons rv rn => cases rn; exact ⟨_, rfl⟩
    have ar : ([b] : List Value).toArray = #[b] := rfl
    rw [ar] at ho
    refine wpAny_binaryOp_repeat_ref (T := "tuple") (U := "int") (by decide) ⟨_, ho, rfl⟩ (fun s' => typeIs_int s' k t) noFill_tuple_mul F.fills_int_mul F.slot_int_rmul repeat_tuple F.slot_int_index.lookup
      (call_meets F.slot_int_rmul (typeIs_int s k t) F.entry_int_rmul (F.args_int_rmul_2 _ _) (int_rmul_tuple k t l #[b] n dd sl)
        ⟨ho, rfl, ⟨_, ho, rfl⟩, ?_⟩)
    rcases (show k = 0 ∨ k = 1 by omega) with rfl | rfl
    · refine call_meets F.slot_tuple_mul ⟨_, ho, rfl⟩ F.entry_tuple_mul (F.args_tuple_mul_2 _ _) (KWT.mul_zero l b n dd sl t) ⟨ho, ?_⟩
      refine ⟨.ref s.heap.objs.size, _, I.laid (t' := s.toks) (o := .tup []) (fun b ob q => Heap.get?_push_of_some _ q) (Nat.le_refl _) ?_, rfl, q _ _ (Same.upd (I.hok.fresh (Nat.le_refl _))) upd_same⟩
      exact ⟨Nat.zero_le _, [], .nil, IsTup.new _ _⟩
    · refine call_meets F.slot_tuple_mul ⟨_, ho, rfl⟩ F.entry_tuple_mul (F.args_tuple_mul_2 _ _) (KWT.mul_one l b n dd sl t) ⟨ho, ?_⟩
      exact ⟨.ref l, H, I, rfl, q l H (Same.refl H) hT⟩
end
end KW
end

section
set_option Elab.async false
set_option linter.all false
set_option maxRecDepth 100000
set_option maxHeartbeats 4000000
set_option exponentiation.threshold 100000
namespace KW
open PySem PySem.Spec PyProof.Rows L2 K38
/-! ### tests -/
theorem decF {p : Prop} [Decidable p] {A B : Prop} (h : ¬ p) (b : B) : if decide p = true then A else B := by rw [decide_eq_false h]; exact iteF b
theorem decT {p : Prop} [Decidable p] {A B : Prop} (h : p) (a : A) : if decide p = true then A else B := by rw [decide_eq_true h]; exact iteT a
theorem bin2 {P : Prop} [Decidable P] {A B : Prop} (h1 : P → A) (h2 : ¬ P → B) : if decide P = true then A else B := by
  by_cases h : P
  · rw [decide_eq_true h]; exact iteT (h1 h)
  · rw [decide_eq_false h]; exact iteF (h2 h)
/-! ### a reading that is asked for less -/
def upA (t : TA) : TA := fun σ H R => ∃ K : List V → Hp → Prop, t σ H K ∧ ∀ vs H1, K vs H1 → R vs H1
def upE (t : TE) : TE := fun σ H R => ∃ K : VK, t σ H K ∧ ∀ v H1, K v H1 → R v H1
section
variable {X : Cx}
theorem PA.up {es : List Expr} {t : TA} (h : PA X es t) : PA X es (upA t) :=
  ⟨fun pos pins s σ H R I ⟨K, hK, imp⟩ => thn (h.run pos pins s σ H K I hK) fun us s1 ⟨vs, H1, I1, r, q⟩ => ⟨vs, H1, I1, r, imp _ _ q⟩⟩
theorem PE.up {e : Expr} {t : TE} (h : PE X e t) : PE X e (upE t) :=
  ⟨fun pins s σ H R I ⟨K, hK, imp⟩ => thn (h.run pins s σ H K I hK) fun u s1 ⟨v, H1, I1, r, q⟩ => ⟨v, H1, I1, r, imp _ _ q⟩⟩
theorem PE.imp {e : Expr} {t t' : TE} (h : PE X e t) (i : ∀ σ H Q, t' σ H Q → t σ H Q) : PE X e t' := ⟨fun pins s σ H Q I q => h.run pins s σ H Q I (i _ _ _ q)⟩
theorem pe_never {e : Expr} : PE X e (fun _ _ _ => False) := ⟨fun _ _ _ _ _ _ h => h.elim⟩
end
/-- a def of the module and its promise -/
structure FnAt (P : Program) (w : World) (K : PySem.W.Frag) (mg : Str → Option Value) (base : Heap) (CX : CXT) (k : Nat) (x : Str) (f : Addr) (fd : FuncData) (ps : List Str) (ds : List Value) (sp : Sp) : Prop where
  mgf : mg x = some (.ref f)
  kp : PySem.W.keepIn K (.ref f) = true
  b : Binds K fd ps ds
  ok : FnOk P w K mg base CX k f fd ps sp
/-! ### the promises of Ratio -/
def spRInit (C : Addr) : Sp := fun vs H Q _ => ∃ (p dx : Addr) (n d : Int), vs = [.ref p, .int n, .int d] ∧ H p = some (.ins C dx []) ∧ 0 < d ∧ d.natAbs < 2 ^ 9000 ∧ Q .non (upd H p (.ins C dx (rf ((n : Rat) / (d : Rat)))))
def bigR (a b : Rat) : Prop := (∃ k, Sz 100000 k a) ∧ (∃ k, Sz 100000 k b) ∧ a.den * b.den < 2 ^ 9000
def bigD (a b : Rat) : Prop := 0 < b ∧ (∃ k, Sz 100000 k a) ∧ a.den * b.num.natAbs < 2 ^ 9000 ∧ b.den < 2 ^ 100000
/-- x op y, by values -/
def spQ2 (C : Addr) (c : Rat → Rat → Prop) (g : Rat → Rat → Rat) : Sp := fun vs H Q _ => ∃ (x y : V) (a b : Rat), vs = [x, y] ∧ IsR C a x H ∧ IsR C b y H ∧ c a b ∧ ∀ v H', Same H H' → IsR C (g a b) v H' → Q v H'
def spHalf (C : Addr) : Sp := fun vs H Q _ => ∃ (x : V) (a : Rat), vs = [x] ∧ IsR C a x H ∧ 2 * a.den < 2 ^ 9000 ∧ ∀ v H', Same H H' → IsR C (a / 2) v H' → Q v H'
def spIsZero (C : Addr) : Sp := fun vs H Q _ => ∃ (x : V) (a : Rat), vs = [x] ∧ IsR C a x H ∧ ∀ H', Same H H' → Q (.bl (decide (a = 0))) H'
def sgn (a : Rat) : Int := (if 0 < a then 1 else 0) - (if a < 0 then 1 else 0)
def spSign (C : Addr) : Sp := fun vs H Q _ => ∃ (x : V) (a : Rat), vs = [x] ∧ IsR C a x H ∧ ∀ H', Same H H' → Q (.int (sgn a)) H'
def eqR (C : Addr) : Addr → Addr → Hp → Prop := fun a b H => ∃ q, IsR C q (.ref a) H ∧ IsR C q (.ref b) H
theorem sgn_neg {a : Rat} : sgn a < 0 ↔ a < 0 := by unfold sgn; split <;> split <;> first | (constructor <;> intro h <;> first | omega | grind) | grind
theorem sgn_pos {a : Rat} : 0 < sgn a ↔ 0 < a := by unfold sgn; split <;> split <;> first | (constructor <;> intro h <;> first | omega | grind) | grind
/-- what is known of the class -/
structure RT (P : Program) (w : World) (K : PySem.W.Frag) (mg : Str → Option Value) (base : Heap) (C : Addr) : Prop where
  cl : Cls K C
  nN : NoAttr K C "n"
  nD : NoAttr K C "d"
  mgC : mg "Ratio" = some (.ref C)
  ic : C8.InsC K C
  isi : mg "isinstance" = none
  init : ∃ f fd t, Mk K C f ∧ Binds K fd ["self", "n", "d"] [] ∧ Binds K fd ["self", "n", "d"] [.int 1 t] ∧ FnOk P w K mg base CX0 2 f fd ["self", "n", "d"] (spRInit C)
def RTm (P : Program) (w : World) (K : PySem.W.Frag) (mg : Str → Option Value) (base : Heap) (C : Addr) (m : Str) (ps : List Str) (sp : Sp) : Prop :=
  ∃ f fd, Meth K C m f ∧ Binds K fd ps [] ∧ FnOk P w K mg base CX0 6 f fd ps sp
def RTo (P : Program) (w : World) (K : PySem.W.Frag) (mg : Str → Option Value) (base : Heap) (C : Addr) (m : Str) (sp : Sp) : Prop :=
  ∃ f fd, PySem.W.findIn K (.ref C) m = some (some (.ref f)) ∧ PySem.W.isFn K (.ref f) = true ∧ Binds K fd ["self", "other"] [] ∧ FnOk P w K mg base CX0 6 f fd ["self", "other"] sp
/-- the class's own facts -/
structure RO (P : Program) (w : World) (K : PySem.W.Frag) (mg : Str → Option Value) (base : Heap) (C : Addr) : Prop extends RT P w K mg base C where
  sf : PySem.W.selfFirst K C = true
  add : RTo P w K mg base C "__add__" (spQ2 C bigR (· + ·))
  sub : RTo P w K mg base C "__sub__" (spQ2 C bigR (· - ·))
  mul : RTo P w K mg base C "__mul__" (spQ2 C bigR (· * ·))
  eq : RTo P w K mg base C "__eq__" (spEq (eqR C))
  ne : PySem.W.findIn K (.ref C) "__ne__" = some (some (.builtin "object.__ne__"))
  mo : PySem.W.mroIn K C (.type "object") = some true
  isz : RTm P w K mg base C "is_zero" ["self"] (spIsZero C)
  sign : RTm P w K mg base C "sign" ["self"] (spSign C)
  over : RTm P w K mg base C "over" ["self", "other"] (spQ2 C bigD (· / ·))
  half : RTm P w K mg base C "half" ["self"] (spHalf C)
/-! ### readings -/
/-- Ratio(n, d) -/
def tMkQ (C : Addr) (t : TA) : TE := fun σ H Q => t σ H fun vs H1 => ∃ n d : Int, vs = [.int n, .int d] ∧ 0 < d ∧ d.natAbs < 2 ^ 9000 ∧ ∀ v H', Same H1 H' → IsR C ((n : Rat) / (d : Rat)) v H' → Q v H'
def tMkQ1 (C : Addr) (t : TA) : TE := fun σ H Q => t σ H fun vs H1 => ∃ n : Int, vs = [.int n] ∧ ∀ v H', Same H1 H' → IsR C (n : Rat) v H' → Q v H'
def rQ2 (C : Addr) (c : Rat → Rat → Prop) (g : Rat → Rat → Rat) : R2 := fun x y H Q => ∃ a b, IsR C a x H ∧ IsR C b y H ∧ c a b ∧ ∀ v H', Same H H' → IsR C (g a b) v H' → Q v H'
def rQne (C : Addr) : R2 := fun x y H Q => ∃ a, IsR C a x H ∧ IsR C a y H ∧ ∀ H', Same H H' → Q (.bl false) H'
def tM1 (ta : TE) (r : V → Hp → VK → Prop) : TE := fun σ H Q => ta σ H fun x H1 => r x H1 Q
def tM2 (ta tb : TE) (r : V → V → Hp → VK → Prop) : TE := fun σ H Q => ta σ H fun x H1 => tb σ H1 fun y H2 => r x y H2 Q
def rIsz (C : Addr) : V → Hp → VK → Prop := fun x H Q => ∃ a, IsR C a x H ∧ ∀ H', Same H H' → Q (.bl (decide (a = 0))) H'
def rSign (C : Addr) : V → Hp → VK → Prop := fun x H Q => ∃ a, IsR C a x H ∧ ∀ H', Same H H' → Q (.int (sgn a)) H'
def rHalf (C : Addr) : V → Hp → VK → Prop := fun x H Q => ∃ a, IsR C a x H ∧ 2 * a.den < 2 ^ 9000 ∧ ∀ v H', Same H H' → IsR C (a / 2) v H' → Q v H'
section
variable {X : Cx} {C : Addr} {e o : Expr} {es : List Expr} {t : TA} {ta tb : TE} {p pos : Pos} {k : Nat}
theorem same_new {H : Hp} {x dx : Addr} {fs : List (Str × V)} (hx : H x = none) (hd : H dx = none) : Same H (upd (upd (upd H dx (.own x)) x (.ins C dx [])) x (.ins C dx fs)) := fun b o e => by
  rw [upd_ne (ne_of_none e hx), upd_ne (ne_of_none e hx), upd_ne (ne_of_none e hd)]; exact e
theorem RT.pe_mk2 {e2 : Expr} (T : RT X.prog X.w X.K X.mg X.base C) (hr : Room k X.A) (ha : PA X [e, e2] t) (hk : 3 ≤ k := by decide) (hg : Gl X "Ratio" := by rfl)
    (he : starEach (e :: [e2]) X.env = (false, eval e X.env) :: starEach [e2] X.env := by rfl) (hpl : (backTo pos (starEach [e2] X.env)).any (·.1) = false := by rfl) : PE X (.Call (.Name "Ratio" p) [e, e2] [] pos) (tMkQ C t) := by
  obtain ⟨f, fd, _, M, b, _, F⟩ := T.init
  refine PE.imp (pe_make M F (hr.mono hk) hg T.mgC b .nil pass0 (PA.up ha) (he := he) (hpl := hpl)) fun σ H Q h => ?_
  refine ⟨_, h, fun vs H1 ⟨n, d, e, h0, h9, q⟩ => ?_⟩
  subst e
  intro x dx hx hd hne
  refine ⟨x, dx, n, d, rfl, upd_same, h0, h9, rfl, q _ _ (same_new hx hd) ⟨x, dx, rfl, upd_same⟩⟩
theorem RT.pe_mk1 (T : RT X.prog X.w X.K X.mg X.base C) (hr : Room k X.A) (ha : PA X [e] t) (hk : 3 ≤ k := by decide) (hg : Gl X "Ratio" := by rfl)
    (he : starEach (e :: []) X.env = (false, eval e X.env) :: starEach [] X.env := by rfl) (hpl : (backTo pos (starEach [] X.env)).any (·.1) = false := by rfl) : PE X (.Call (.Name "Ratio" p) [e] [] pos) (tMkQ1 C t) := by
  obtain ⟨f, fd, tk, M, _, b, F⟩ := T.init
  refine PE.imp (pe_make (dvs := [.int 1]) M F (hr.mono hk) hg T.mgC b (.cons ⟨_, rfl⟩ .nil) pass0 (PA.up ha) (he := he) (hpl := hpl)) fun σ H Q h => ?_
  refine ⟨_, h, fun vs H1 ⟨n, e, q⟩ => ?_⟩
  subst e
  intro x dx hx hd hne
  refine ⟨x, dx, n, 1, rfl, upd_same, by decide, by decide +kernel, rfl, q _ _ (same_new hx hd) ⟨x, dx, rfl, ?_⟩⟩
  have e1 : (n : Rat) / ((1 : Int) : Rat) = (n : Rat) := by
    have : ((1 : Int) : Rat) = 1 := rfl
    rw [this]; grind
  rw [upd_same, e1]
theorem opQ {op : Operator} {m : Str} {c : Rat → Rat → Prop} {g : Rat → Rat → Rat} (hm : PySem.dunder op.info.2 = m) (sf : PySem.W.selfFirst X.K C = true) (T : RTo X.prog X.w X.K X.mg X.base C m (spQ2 C c g)) (hr : Room k X.A) (hk : 6 ≤ k) : OpR X (binaryOp op) (rQ2 C c g) := by
  obtain ⟨f, fd, hf, hi, hb, F⟩ := T
  intro pins s σ H x y u v Q I rx ry ⟨a, b, ⟨pa, da, ea, ha⟩, ⟨pb, db, eb, hb'⟩, hc, q⟩
  refine op_own (E := E0) F sf (by rw [hm]; exact hf) hi hb pass0 (hr.mono hk) pins s σ H x y u v Q I rx ry ⟨pa, pb, da, db, _, _, ea, eb, ha, hb', ?_⟩
  exact ⟨_, _, a, b, rfl, ⟨pa, da, rfl, ha⟩, ⟨pb, db, rfl, hb'⟩, hc, q⟩
theorem RO.opAdd (T : RO X.prog X.w X.K X.mg X.base C) (hr : Room k X.A) (hk : 6 ≤ k := by decide) : OpR X (binaryOp .Add) (rQ2 C bigR (· + ·)) := opQ (by decide +kernel) T.sf T.add hr hk
theorem RO.opSub (T : RO X.prog X.w X.K X.mg X.base C) (hr : Room k X.A) (hk : 6 ≤ k := by decide) : OpR X (binaryOp .Sub) (rQ2 C bigR (· - ·)) := opQ (by decide +kernel) T.sf T.sub hr hk
theorem RO.opMul (T : RO X.prog X.w X.K X.mg X.base C) (hr : Room k X.A) (hk : 6 ≤ k := by decide) : OpR X (binaryOp .Mult) (rQ2 C bigR (· * ·)) := opQ (by decide +kernel) T.sf T.mul hr hk
theorem RO.opNe (T : RO X.prog X.w X.K X.mg X.base C) (hr : Room k X.A) (hk : 7 ≤ k := by decide) : OpR X (compareOp .NotEq) (rQne C) := by
  obtain ⟨f, fd, hf, hi, hb, F⟩ := T.eq
  intro pins s σ H x y u v Q I rx ry ⟨a, ⟨pa, da, ea, ha⟩, ⟨pb, db, eb, hb'⟩, q⟩
  refine op_neIns (E := E0) F T.ne hf hi T.mo hb pass0 (hr.mono hk) pins s σ H x y u v Q I rx ry ⟨⟨pa, pb, da, db, _, _, ea, eb, ha, hb', a, ⟨pa, da, rfl, ha⟩, ⟨pb, db, rfl, hb'⟩⟩, fun H' e => q H' e⟩
/-- o.m(..) is evaluated as a method's call -/
abbrev MEv (X : Cx) (o : Expr) (m : Str) (as : List Expr) (apos pos : Pos) (pl : Sem Bool) : Prop :=
  eval (.Call (.Attribute o m apos) as [] pos) X.env = (do
    let ov ← eval o X.env
    standAt apos.atName
    let (g, before) ← holding [ov] (getMethod ov m pl)
    callWith pos g before (backTo pos (starEach as X.env)) (backToKw pos (keywordEach [] X.env)))
theorem rf_no (q : Rat) {m : Str} (h1 : ¬ m = "n") (h2 : ¬ m = "d") : (rf q).lookup m = none := by
  have e1 : (m == ("n" : Str)) = false := by simpa using h1
  have e2 : (m == ("d" : Str)) = false := by simpa using h2
  unfold rf
  rw [List.lookup_cons, e1, List.lookup_cons, e2]
  rfl
theorem pe_m0 {m : Str} {sp : Sp} {r : V → Hp → VK → Prop} {apos : Pos} {pl : Sem Bool} (h1 : ¬ m = "n") (h2 : ¬ m = "d") (cl : Cls X.K C) (T : RTm X.prog X.w X.K X.mg X.base C m ["self"] sp) (hr : Room k X.A) (he : PE X o ta) (hk : 6 ≤ k) (ht : MEv X o m [] apos pos pl)
    (hv : ∀ x H Q, r x H Q → (∃ a, IsR C a x H) ∧ sp [x] H Q E0) : PE X (.Call (.Attribute o m apos) [] [] pos) (tM1 ta r) := by
  obtain ⟨f, fd, M, b, F⟩ := T
  refine PE.imp (pe_meth0 (PE.up he) cl M F (hr.mono hk) b .nil pass0 (pl := pl) (ht := ht)) fun σ H Q h => ?_
  refine ⟨_, h, fun x H1 q => ?_⟩
  obtain ⟨⟨a, p, dx, rfl, hp⟩, q⟩ := hv x H1 Q q
  exact ⟨p, dx, _, rfl, hp, rf_no a h1 h2, q⟩
theorem RO.pe_is_zero (T : RO X.prog X.w X.K X.mg X.base C) (hr : Room k X.A) (he : PE X o ta) (hk : 6 ≤ k := by decide) {apos : Pos} {pl : Sem Bool} (ht : MEv X o "is_zero" [] apos pos pl := by rfl) : PE X (.Call (.Attribute o "is_zero" apos) [] [] pos) (tM1 ta (rIsz C)) :=
  pe_m0 (by decide +kernel) (by decide +kernel) T.cl T.isz hr he hk ht fun x H Q ⟨a, ha, q⟩ => ⟨⟨a, ha⟩, x, a, rfl, ha, q⟩
theorem RO.pe_sign (T : RO X.prog X.w X.K X.mg X.base C) (hr : Room k X.A) (he : PE X o ta) (hk : 6 ≤ k := by decide) {apos : Pos} {pl : Sem Bool} (ht : MEv X o "sign" [] apos pos pl := by rfl) : PE X (.Call (.Attribute o "sign" apos) [] [] pos) (tM1 ta (rSign C)) :=
  pe_m0 (by decide +kernel) (by decide +kernel) T.cl T.sign hr he hk ht fun x H Q ⟨a, ha, q⟩ => ⟨⟨a, ha⟩, x, a, rfl, ha, q⟩
theorem RO.pe_half (T : RO X.prog X.w X.K X.mg X.base C) (hr : Room k X.A) (he : PE X o ta) (hk : 6 ≤ k := by decide) {apos : Pos} {pl : Sem Bool} (ht : MEv X o "half" [] apos pos pl := by rfl) : PE X (.Call (.Attribute o "half" apos) [] [] pos) (tM1 ta (rHalf C)) :=
  pe_m0 (by decide +kernel) (by decide +kernel) T.cl T.half hr he hk ht fun x H Q ⟨a, ha, q⟩ => ⟨⟨a, ha⟩, x, a, rfl, ha, q⟩
/-- x.over(y) -/
def tOver (C : Addr) (ta tb : TE) : TE := fun σ H Q => ta σ H fun x H1 => (∃ a, IsR C a x H1) ∧ tb σ H1 fun y H2 => rQ2 C bigD (· / ·) x y H2 Q
theorem RO.pe_over (T : RO X.prog X.w X.K X.mg X.base C) (hr : Room k X.A) (he : PE X o ta) (hb : PE X e tb) (hk : 6 ≤ k := by decide) {apos : Pos} {pl : Sem Bool} (ht : MEv X o "over" [e] apos pos pl := by rfl)
    (hst : starEach (e :: []) X.env = (false, eval e X.env) :: starEach [] X.env := by rfl) (hpl : (backTo pos (starEach [] X.env)).any (·.1) = false := by rfl) :
    PE X (.Call (.Attribute o "over" apos) [e] [] pos) (tOver C ta tb) := by
  obtain ⟨f, fd, M, b, F⟩ := T.over
  refine PE.imp (pe_meth (PE.up he) T.cl M F (hr.mono hk) b .nil pass0 (pl := pl) (pa_cons (PE.up hb) pa_nil hst) hst hpl ht) fun σ H Q h => ?_
  refine ⟨_, h, fun x H1 q => ?_⟩
  obtain ⟨⟨a, p, dx, rfl, hp⟩, q⟩ := q
  refine ⟨p, dx, _, rfl, hp, rf_no a (by decide +kernel) (by decide +kernel), ?_⟩
  refine ⟨_, q, fun y H2 q2 => ?_⟩
  obtain ⟨u, v, hu, hv, hc, q2⟩ := q2
  exact ⟨_, _, u, v, rfl, hu, hv, hc, q2⟩
end
end KW
namespace KW
open PySem PySem.Spec PyProof.Rows L2
section
variable {N : List Str} {own : List (Str × Nat)}
/-- a comprehension within a comprehension -/
theorem blk_in {s0 sc0 scope : Scope} {env : Env} {cl : List (Str × Addr)} {C : Addr} (he : env.scope = sc0) (h : blkC N (relS s0 sc0) scope own = true) : BlkOk N (compEnvC s0 cl C env).scope scope own := by
  have e : (compEnvC s0 cl C env).scope = relS s0 env.scope := rfl
  rw [e, he]
  exact blkOk_by h
theorem blk_in2 {s1 s0 sc0 scope : Scope} {env : Env} {cl cl1 : List (Str × Addr)} {C C1 : Addr} (he : env.scope = sc0) (h : blkC N (relS s1 (relS s0 sc0)) scope own = true) : BlkOk N (compEnvC s1 cl1 C1 (compEnvC s0 cl C env)).scope scope own := by
  have e : (compEnvC s1 cl1 C1 (compEnvC s0 cl C env)).scope = relS s1 (relS s0 env.scope) := rfl
  rw [e, he]
  exact blkOk_by h
end
end KW
end

section
set_option Elab.async false
set_option linter.all false
set_option maxRecDepth 100000
set_option maxHeartbeats 4000000
set_option exponentiation.threshold 100000
namespace KW
open PySem PySem.Spec PyProof.Rows L2 K38
abbrev sRI : Stmt := inClass (top 9) 0
abbrev sRE : Stmt := inClass (top 9) 1
abbrev sRA : Stmt := inClass (top 9) 2
abbrev sRS : Stmt := inClass (top 9) 3
abbrev sRM : Stmt := inClass (top 9) 4
abbrev sRZ : Stmt := inClass (top 9) 7
abbrev sRG : Stmt := inClass (top 9) 8
abbrev sRO : Stmt := inClass (top 9) 10
abbrev sRH : Stmt := inClass (top 9) 11
section
variable {P : Program} {w : World} {K : PySem.W.Frag} {mg : Str → Option Value} {base : Heap} {C : Addr}
theorem scRI : FnScope ["self", "n", "d", "shared"] ["self", "n", "d"] (defScope sRI) := ⟨rfl, rfl, rfl, by decide +kernel, rfl, by decide +kernel, by decide +kernel⟩
theorem nd_ : ¬ (("n" : Str) = "d") := by decide +kernel
theorem putF_nd (a b : Int) : putF "d" (.int b) (putF "n" (.int a) []) = ([("n", V.int a), ("d", V.int b)] : List (Str × V)) := by
  show (if ("n" : Str) = "d" then [(("n" : Str), V.int b)] else (("n" : Str), V.int a) :: putF "d" (V.int b) []) = ([("n", V.int a), ("d", V.int b)] : List (Str × V))
  rw [if_neg nd_]
  rfl
theorem ok_RI {f : Addr} {fd : FuncData} (F : FunD K "__init__" "Ratio.__init__" (defArgs sRI) (defBody sRI) (defScope sRI) [.int 1] [] f fd) (cl : Cls K C) (nN : NoAttr K C "n") (nD : NoAttr K C "d") (T_gcd : mg "gcd" = some (.builtin "math.gcd")) : FnOk P w K mg base CX0 2 f fd ["self", "n", "d"] (spRInit C) := by
  refine F.ok scRI (fun vs H Q E h => ?_) (fun cdv A outer s H vs Q E hr h => ?_)
  · obtain ⟨p, dx, n, d, rfl, _⟩ := h
    rfl
  · obtain ⟨p, dx, n, d, rfl, hp, h0, h9, q⟩ := h
    refine ⟨_, PSs.nox (pss_cons (ps_if (pt_cmpR op_eq (pv 2) pe_int (nomark _)) (pss_one ps_never) pss_nil)
      (pss_cons (ps_if (pt_cmpR op_lt (pv 2) pe_int (nomark _)) (pss_cons (ps_set (i := 1) scRI.nd rfl (Or.inl rfl) (pe_un un_neg (pv 1)))
      (pss_one (ps_set (i := 2) scRI.nd rfl (Or.inl rfl) (pe_un un_neg (pv 2))))) pss_nil)
      (pss_cons (ps_set (i := 3) scRI.nd rfl (Or.inl rfl) (pe_callBfun cr_gcd rfl T_gcd (pa_cons (pv 1) (pa_cons (pv 2) pa_nil))))
      (pss_cons (ps_fld (pv 0) (pe_op op_fdivW (pv 1) (pv 3)) rfl)
      (pss_one (ps_fld (pv 0) (pe_op op_fdivW (pv 2) (pv 3)) rfl)))))), ?_⟩
    have g := mk_gcd_pos (n := n) h0
    obtain ⟨e1, e2⟩ := mk_num (n := n) h0
    have cd : CDivW n ((Nat.gcd n.natAbs d.natAbs : Nat) : Int) := wide_div (by omega) (b := 9000) (by rw [Int.natAbs_natCast]; omega) (by decide) (by decide)
    have cd2 : CDivW d ((Nat.gcd n.natAbs d.natAbs : Nat) : Int) := cd
    refine ⟨_, rfl, rfl, _, rfl, decF (by intro z; injection z with z; omega) ?_⟩
    refine ⟨_, rfl, _, _, rfl, rfl, _, rfl, decF (by omega) ?_⟩
    refine ⟨_, rfl, _, rfl, _, _, rfl, ?_⟩
    refine ⟨_, rfl, _, rfl, _, _, rfl, rfl, cd, ?_⟩
    refine ⟨_, rfl, p, C, dx, _, rfl, hp, cl, nN, (by decide), ?_⟩
    refine ⟨_, rfl, _, rfl, _, _, rfl, rfl, cd2, ?_⟩
    refine ⟨_, rfl, p, C, dx, _, rfl, upd_same, cl, nD, (by show 1 < 1000; decide), ?_⟩
    rw [upd_upd, putF_nd, e1, e2]
    exact q
/-! ### the fields -/
theorem rf_n (q : Rat) : (rf q).lookup ("n" : Str) = some (.int q.num) := by
  unfold rf
  rw [List.lookup_cons, beq_self_eq_true]
theorem rf_d (q : Rat) : (rf q).lookup ("d" : Str) = some (.int (q.den : Int)) := by
  have e1 : (("d" : Str) == ("n" : Str)) = false := by simpa using (fun z => nd_ (Eq.symm z))
  unfold rf
  rw [List.lookup_cons, e1, List.lookup_cons, beq_self_eq_true]
theorem den_wide {a : Rat} {k : Nat} (h : Sz 100000 k a) (b : Rat) (hb : ∃ k, Sz 100000 k b) (hd : a.den * b.den < 2 ^ 9000) : True := trivial
theorem den_le_mul (a b : Rat) : a.den ≤ a.den * b.den ∧ b.den ≤ a.den * b.den := ⟨Nat.le_mul_of_pos_right _ b.den_pos, Nat.le_mul_of_pos_left _ a.den_pos⟩
theorem big_d {a b : Rat} (hd : a.den * b.den < 2 ^ 9000) : ((a.den : Int)).natAbs < 2 ^ 9000 ∧ ((b.den : Int)).natAbs < 2 ^ 9000 := by
  have := den_le_mul a b
  rw [Int.natAbs_natCast, Int.natAbs_natCast]
  omega
theorem scRA : FnScope ["self", "other"] ["self", "other"] (defScope sRA) := ⟨rfl, rfl, rfl, by decide +kernel, rfl, by decide +kernel, by decide +kernel⟩
theorem den_mul_pos (a b : Rat) : 0 < (a.den : Int) * (b.den : Int) := Int.mul_pos (by have := a.den_pos; omega) (by have := b.den_pos; omega)
theorem den_mul_big {a b : Rat} (hd : a.den * b.den < 2 ^ 9000) : ((a.den : Int) * (b.den : Int)).natAbs < 2 ^ 9000 := by
  rw [Int.natAbs_mul, Int.natAbs_natCast, Int.natAbs_natCast]; exact hd
theorem ok_RA {f : Addr} {fd : FuncData} (F : Fun K "__add__" "Ratio.__add__" sRA f fd) (T : RT P w K mg base C) : FnOk P w K mg base CX0 6 f fd ["self", "other"] (spQ2 C bigR (· + ·)) := by
  refine F.ok scRA (fun vs H Q E h => ?_) (fun cdv A outer s H vs Q E hr h => ?_)
  · obtain ⟨x, y, a, b, rfl, _⟩ := h
    rfl
  · obtain ⟨_, _, a, b, rfl, ⟨p, dx, rfl, hp⟩, ⟨p2, dx2, rfl, hp2⟩, ⟨⟨_, ha⟩, ⟨_, hb⟩, hd⟩, q⟩ := h
    refine ⟨_, (pss_one (ps_ret (RT.pe_mk2 T hr (pa_cons (pe_op op_add (pe_op op_mulW (pe_fld (pv 0) rfl) (pe_fld (pv 1) rfl)) (pe_op op_mulW (pe_fld (pv 1) rfl) (pe_fld (pv 0) rfl))) (pa_cons (pe_op op_mulW (pe_fld (pv 0) rfl) (pe_fld (pv 1) rfl)) pa_nil))))), ?_⟩
    obtain ⟨da, db⟩ := big_d hd
    refine ⟨_, rfl, p, C, dx, _, _, rfl, hp, T.cl, T.nN, rf_n a, _, rfl, p2, C, dx2, _, _, rfl, hp2, T.cl, T.nD, rf_d b, _, _, rfl, rfl, wide_mul ha.1 db (by decide) (by decide) (by decide), ?_⟩
    refine ⟨_, rfl, p2, C, dx2, _, _, rfl, hp2, T.cl, T.nN, rf_n b, _, rfl, p, C, dx, _, _, rfl, hp, T.cl, T.nD, rf_d a, _, _, rfl, rfl, wide_mul hb.1 da (by decide) (by decide) (by decide), ?_⟩
    refine ⟨_, _, rfl, rfl, ?_⟩
    refine ⟨_, rfl, p, C, dx, _, _, rfl, hp, T.cl, T.nD, rf_d a, _, rfl, p2, C, dx2, _, _, rfl, hp2, T.cl, T.nD, rf_d b, _, _, rfl, rfl, wide_mul da db (by decide) (by decide) (by decide), ?_⟩
    refine ⟨_, _, rfl, den_mul_pos a b, den_mul_big hd, fun v H' s' r => q v H' s' ?_⟩
    rw [q_add] at r
    exact r
theorem scRS : FnScope ["self", "other"] ["self", "other"] (defScope sRS) := ⟨rfl, rfl, rfl, by decide +kernel, rfl, by decide +kernel, by decide +kernel⟩
theorem ok_RS {f : Addr} {fd : FuncData} (F : Fun K "__sub__" "Ratio.__sub__" sRS f fd) (T : RT P w K mg base C) : FnOk P w K mg base CX0 6 f fd ["self", "other"] (spQ2 C bigR (· - ·)) := by
  refine F.ok scRS (fun vs H Q E h => ?_) (fun cdv A outer s H vs Q E hr h => ?_)
  · obtain ⟨x, y, a, b, rfl, _⟩ := h
    rfl
  · obtain ⟨_, _, a, b, rfl, ⟨p, dx, rfl, hp⟩, ⟨p2, dx2, rfl, hp2⟩, ⟨⟨_, ha⟩, ⟨_, hb⟩, hd⟩, q⟩ := h
    refine ⟨_, (pss_one (ps_ret (RT.pe_mk2 T hr (pa_cons (pe_op op_sub (pe_op op_mulW (pe_fld (pv 0) rfl) (pe_fld (pv 1) rfl)) (pe_op op_mulW (pe_fld (pv 1) rfl) (pe_fld (pv 0) rfl))) (pa_cons (pe_op op_mulW (pe_fld (pv 0) rfl) (pe_fld (pv 1) rfl)) pa_nil))))), ?_⟩
    obtain ⟨da, db⟩ := big_d hd
    refine ⟨_, rfl, p, C, dx, _, _, rfl, hp, T.cl, T.nN, rf_n a, _, rfl, p2, C, dx2, _, _, rfl, hp2, T.cl, T.nD, rf_d b, _, _, rfl, rfl, wide_mul ha.1 db (by decide) (by decide) (by decide), ?_⟩
    refine ⟨_, rfl, p2, C, dx2, _, _, rfl, hp2, T.cl, T.nN, rf_n b, _, rfl, p, C, dx, _, _, rfl, hp, T.cl, T.nD, rf_d a, _, _, rfl, rfl, wide_mul hb.1 da (by decide) (by decide) (by decide), ?_⟩
    refine ⟨_, _, rfl, rfl, ?_⟩
    refine ⟨_, rfl, p, C, dx, _, _, rfl, hp, T.cl, T.nD, rf_d a, _, rfl, p2, C, dx2, _, _, rfl, hp2, T.cl, T.nD, rf_d b, _, _, rfl, rfl, wide_mul da db (by decide) (by decide) (by decide), ?_⟩
    refine ⟨_, _, rfl, den_mul_pos a b, den_mul_big hd, fun v H' s' r => q v H' s' ?_⟩
    rw [q_sub] at r
    exact r
theorem scRM : FnScope ["self", "other"] ["self", "other"] (defScope sRM) := ⟨rfl, rfl, rfl, by decide +kernel, rfl, by decide +kernel, by decide +kernel⟩
theorem ok_RM {f : Addr} {fd : FuncData} (F : Fun K "__mul__" "Ratio.__mul__" sRM f fd) (T : RT P w K mg base C) : FnOk P w K mg base CX0 6 f fd ["self", "other"] (spQ2 C bigR (· * ·)) := by
  refine F.ok scRM (fun vs H Q E h => ?_) (fun cdv A outer s H vs Q E hr h => ?_)
  · obtain ⟨x, y, a, b, rfl, _⟩ := h
    rfl
  · obtain ⟨_, _, a, b, rfl, ⟨p, dx, rfl, hp⟩, ⟨p2, dx2, rfl, hp2⟩, ⟨⟨_, ha⟩, ⟨_, hb⟩, hd⟩, q⟩ := h
    refine ⟨_, (pss_one (ps_ret (RT.pe_mk2 T hr (pa_cons (pe_op op_mulW (pe_fld (pv 0) rfl) (pe_fld (pv 1) rfl)) (pa_cons (pe_op op_mulW (pe_fld (pv 0) rfl) (pe_fld (pv 1) rfl)) pa_nil))))), ?_⟩
    obtain ⟨da, db⟩ := big_d hd
    refine ⟨_, rfl, p, C, dx, _, _, rfl, hp, T.cl, T.nN, rf_n a, _, rfl, p2, C, dx2, _, _, rfl, hp2, T.cl, T.nN, rf_n b, _, _, rfl, rfl, wide_mul ha.1 hb.1 (by decide) (by decide) (by decide), ?_⟩
    refine ⟨_, rfl, p, C, dx, _, _, rfl, hp, T.cl, T.nD, rf_d a, _, rfl, p2, C, dx2, _, _, rfl, hp2, T.cl, T.nD, rf_d b, _, _, rfl, rfl, wide_mul da db (by decide) (by decide) (by decide), ?_⟩
    refine ⟨_, _, rfl, den_mul_pos a b, den_mul_big hd, fun v H' s' r => q v H' s' ?_⟩
    rw [q_mul] at r
    exact r
theorem scRO : FnScope ["self", "other"] ["self", "other"] (defScope sRO) := ⟨rfl, rfl, rfl, by decide +kernel, rfl, by decide +kernel, by decide +kernel⟩
theorem ok_RO {f : Addr} {fd : FuncData} (F : Fun K "over" "Ratio.over" sRO f fd) (T : RT P w K mg base C) : FnOk P w K mg base CX0 6 f fd ["self", "other"] (spQ2 C bigD (· / ·)) := by
  refine F.ok scRO (fun vs H Q E h => ?_) (fun cdv A outer s H vs Q E hr h => ?_)
  · obtain ⟨x, y, a, b, rfl, _⟩ := h
    rfl
  · obtain ⟨_, _, a, b, rfl, ⟨p, dx, rfl, hp⟩, ⟨p2, dx2, rfl, hp2⟩, ⟨b0, ⟨_, ha⟩, hd, hb⟩, q⟩ := h
    refine ⟨_, (pss_one (ps_ret (RT.pe_mk2 T hr (pa_cons (pe_op op_mulW (pe_fld (pv 0) rfl) (pe_fld (pv 1) rfl)) (pa_cons (pe_op op_mulW (pe_fld (pv 0) rfl) (pe_fld (pv 1) rfl)) pa_nil))))), ?_⟩
    have bn : 0 < b.num := (num_pos_iff b).mpr b0
    have db : ((b.den : Int)).natAbs < 2 ^ 100000 := by rw [Int.natAbs_natCast]; exact hb
    have da : ((a.den : Int)).natAbs < 2 ^ 9000 := by
      rw [Int.natAbs_natCast]
      exact Nat.lt_of_le_of_lt (Nat.le_mul_of_pos_right _ (by omega)) hd
    have nb : b.num.natAbs < 2 ^ 9000 := Nat.lt_of_le_of_lt (Nat.le_mul_of_pos_left _ a.den_pos) hd
    refine ⟨_, rfl, p, C, dx, _, _, rfl, hp, T.cl, T.nN, rf_n a, _, rfl, p2, C, dx2, _, _, rfl, hp2, T.cl, T.nD, rf_d b, _, _, rfl, rfl, wide_mul ha.1 db (by decide) (by decide) (by decide), ?_⟩
    refine ⟨_, rfl, p, C, dx, _, _, rfl, hp, T.cl, T.nD, rf_d a, _, rfl, p2, C, dx2, _, _, rfl, hp2, T.cl, T.nN, rf_n b, _, _, rfl, rfl, wide_mul da nb (by decide) (by decide) (by decide), ?_⟩
    refine ⟨_, _, rfl, Int.mul_pos (by have := a.den_pos; omega) bn, by rw [Int.natAbs_mul, Int.natAbs_natCast]; exact hd, fun v H' s' r => q v H' s' ?_⟩
    rw [q_div a b (by grind)] at r
    exact r
theorem scRH : FnScope ["self"] ["self"] (defScope sRH) := ⟨rfl, rfl, rfl, by decide +kernel, rfl, by decide +kernel, by decide +kernel⟩
theorem ok_RH {f : Addr} {fd : FuncData} (F : Fun K "half" "Ratio.half" sRH f fd) (T : RT P w K mg base C) : FnOk P w K mg base CX0 6 f fd ["self"] (spHalf C) := by
  refine F.ok scRH (fun vs H Q E h => ?_) (fun cdv A outer s H vs Q E hr h => ?_)
  · obtain ⟨x, a, rfl, _⟩ := h
    rfl
  · obtain ⟨_, a, rfl, ⟨p, dx, rfl, hp⟩, hd, q⟩ := h
    refine ⟨_, (pss_one (ps_ret (RT.pe_mk2 T hr (pa_cons (pe_fld (pv 0) rfl) (pa_cons (pe_op op_mul pe_int (pe_fld (pv 0) rfl)) pa_nil))))), ?_⟩
    refine ⟨_, rfl, p, C, dx, _, _, rfl, hp, T.cl, T.nN, rf_n a, ?_⟩
    refine ⟨_, rfl, p, C, dx, _, _, rfl, hp, T.cl, T.nD, rf_d a, _, _, rfl, rfl, .inl ⟨by decide, by decide⟩, ?_⟩
    have dp := a.den_pos
    refine ⟨_, _, rfl, (by show 0 < 2 * (a.den : Int); omega), (by show (2 * (a.den : Int)).natAbs < _; rw [Int.natAbs_mul, Int.natAbs_natCast]; exact hd), fun v H' s' r => q v H' s' ?_⟩
    rw [q_half] at r
    exact r
theorem scRZ : FnScope ["self"] ["self"] (defScope sRZ) := ⟨rfl, rfl, rfl, by decide +kernel, rfl, by decide +kernel, by decide +kernel⟩
theorem ok_RZ {f : Addr} {fd : FuncData} (F : Fun K "is_zero" "Ratio.is_zero" sRZ f fd) (T : RT P w K mg base C) : FnOk P w K mg base CX0 6 f fd ["self"] (spIsZero C) := by
  refine F.ok scRZ (fun vs H Q E h => ?_) (fun cdv A outer s H vs Q E hr h => ?_)
  · obtain ⟨x, a, rfl, _⟩ := h
    rfl
  · obtain ⟨_, a, rfl, ⟨p, dx, rfl, hp⟩, q⟩ := h
    refine ⟨_, (pss_one (ps_ret (pe_cmpR op_eq (pe_fld (pv 0) rfl) pe_int (nomark _)))), ?_⟩
    refine ⟨_, rfl, p, C, dx, _, _, rfl, hp, T.cl, T.nN, rf_n a, rfl, ?_⟩
    have e : decide (V.int a.num = V.int 0) = decide (a = 0) := by
      rw [decide_eq_decide]
      exact ⟨fun z => Rat.num_eq_zero.mp (by injection z), fun z => by rw [Rat.num_eq_zero.mpr z]⟩
    show Q (.bl (decide (V.int a.num = V.int 0))) H
    rw [e]
    exact q H (Same.refl H)
theorem scRG : FnScope ["self"] ["self"] (defScope sRG) := ⟨rfl, rfl, rfl, by decide +kernel, rfl, by decide +kernel, by decide +kernel⟩
theorem ok_RG {f : Addr} {fd : FuncData} (F : Fun K "sign" "Ratio.sign" sRG f fd) (T : RT P w K mg base C) (T_int : mg "int" = none) : FnOk P w K mg base CX0 6 f fd ["self"] (spSign C) := by
  refine F.ok scRG (fun vs H Q E h => ?_) (fun cdv A outer s H vs Q E hr h => ?_)
  · obtain ⟨x, a, rfl, _⟩ := h
    rfl
  · obtain ⟨_, a, rfl, ⟨p, dx, rfl, hp⟩, q⟩ := h
    refine ⟨_, (pss_one (ps_ret (pe_op op_sub (pe_callTy call_int1 (by rfl) T_int (by decide +kernel) (pa_cons (pe_cmpR op_gt (pe_fld (pv 0) rfl) pe_int (nomark _)) pa_nil)) (pe_callTy call_int1 (by rfl) T_int (by decide +kernel) (pa_cons (pe_cmpR op_lt (pe_fld (pv 0) rfl) pe_int (nomark _)) pa_nil))))), ?_⟩
    refine ⟨_, rfl, p, C, dx, _, _, rfl, hp, T.cl, T.nN, rf_n a, _, _, rfl, rfl, .inr ⟨_, rfl, ?_⟩⟩
    refine ⟨_, rfl, p, C, dx, _, _, rfl, hp, T.cl, T.nN, rf_n a, _, _, rfl, rfl, .inr ⟨_, rfl, ?_⟩⟩
    refine ⟨_, _, rfl, rfl, ?_⟩
    have e : ((if decide (0 < a.num) = true then 1 else 0) - (if decide (a.num < 0) = true then 1 else 0) : Int) = sgn a := by
      unfold sgn
      simp only [decide_eq_true_eq, num_pos_iff, num_neg_iff]
    show Q (.int ((if decide (0 < a.num) = true then 1 else 0) - (if decide (a.num < 0) = true then 1 else 0))) H
    rw [e]
    exact q H (Same.refl H)
theorem scRE : FnScope ["self", "other"] ["self", "other"] (defScope sRE) := ⟨rfl, rfl, rfl, by decide +kernel, rfl, by decide +kernel, by decide +kernel⟩
theorem ok_RE {f : Addr} {fd : FuncData} (F : Fun K "__eq__" "Ratio.__eq__" sRE f fd) (T : RT P w K mg base C) : FnOk P w K mg base CX0 6 f fd ["self", "other"] (spEq (eqR C)) := by
  refine F.ok scRE (fun vs H Q E h => ?_) (fun cdv A outer s H vs Q E hr h => ?_)
  · obtain ⟨x, y, rfl, _⟩ := h
    rfl
  · obtain ⟨p, p2, rfl, ⟨a, ⟨_, dx, e1, hp⟩, ⟨_, dx2, e2, hp2⟩⟩, q⟩ := h
    cases e1
    cases e2
    refine ⟨_, (pss_one (ps_ret (pe_and (pe_callB (C8.call_isC T.ic) (by rfl) T.isi (by decide +kernel) (pa_cons (pv 1) (pa_cons (pe_glob (v := .ref C) rfl T.mgC rfl) pa_nil))) (pe_and (pe_cmpR op_eq (pe_fld (pv 0) rfl) (pe_fld (pv 1) rfl) (nomark _)) (pe_one (pe_cmpR op_eq (pe_fld (pv 0) rfl) (pe_fld (pv 1) rfl) (nomark _))))))), ?_⟩
    refine ⟨_, rfl, _, _, _, rfl, hp2, _, rfl, iteT ?_⟩
    refine ⟨_, rfl, p, C, dx, _, _, rfl, hp, T.cl, T.nN, rf_n a, _, rfl, p2, C, dx2, _, _, rfl, hp2, T.cl, T.nN, rf_n a, rfl, _, rfl, decT rfl ?_⟩
    refine ⟨_, rfl, p, C, dx, _, _, rfl, hp, T.cl, T.nD, rf_d a, _, rfl, p2, C, dx2, _, _, rfl, hp2, T.cl, T.nD, rf_d a, rfl, ?_⟩
    show Q (.bl (decide (V.int (a.den : Int) = V.int (a.den : Int)))) H
    rw [decide_eq_true rfl]
    exact q H Ext.rfl'
end
end KW
end

section
set_option Elab.async false
set_option linter.all false
set_option maxRecDepth 100000
set_option maxHeartbeats 4000000
set_option exponentiation.threshold 100000
namespace KW
open PySem PySem.Spec PyProof.Rows L2 K38
/-- the built-in names that the program calls -/
structure NM (mg : Str → Option Value) : Prop where
  len : mg "len" = none
  range : mg "range" = none
  tuple : mg "tuple" = none
  list : mg "list" = none
  int : mg "int" = none
  abs : mg "abs" = none
  min : mg "min" = none
  max : mg "max" = none
  sum : mg "sum" = none
  isinstance : mg "isinstance" = none
  bool : mg "bool" = none
/-! ### all but the list of the draws -/
def SameX (st : Addr) (H H' : Hp) : Prop := ∀ b o, b ≠ st → H b = some o → H' b = some o
def StOk (H : Hp) (st : Addr) : Prop := ∃ a b : Int, H st = some (.lst [.int a, .int b]) ∧ 0 ≤ b ∧ b < 2147483647
/-- a draw was made -/
def SE (st : Addr) (H H' : Hp) : Prop := SameX st H H' ∧ StOk H' st
theorem Same.x {st : Addr} {H H' : Hp} (h : Same H H') : SameX st H H' := fun b o _ e => h b o e
theorem SameX.trans {st : Addr} {H H1 H2 : Hp} (a : SameX st H H1) (b : SameX st H1 H2) : SameX st H H2 := fun c o n e => b c o n (a c o n e)
theorem upd_x {st : Addr} {H : Hp} {o : HO} : SameX st H (L2.upd H st o) := fun b u n e => by rw [upd_ne n]; exact e
theorem SE.trans {st : Addr} {H H1 H2 : Hp} (a : SE st H H1) (b : SE st H1 H2) : SE st H H2 := ⟨a.1.trans b.1, b.2⟩
theorem SE.same {st : Addr} {H H1 H2 : Hp} (a : SE st H H1) (b : Same H1 H2) : SE st H H2 := ⟨a.1.trans (Same.x b), let ⟨x, y, h, h2⟩ := a.2; ⟨x, y, b _ _ h, h2⟩⟩
theorem SE.of {st : Addr} {H H1 : Hp} (o : StOk H st) (b : Same H H1) : SE st H H1 := ⟨Same.x b, let ⟨x, y, h, h2⟩ := o; ⟨x, y, b _ _ h, h2⟩⟩
theorem SE.refl {st : Addr} {H : Hp} (o : StOk H st) : SE st H H := SE.of o (Same.refl H)
theorem SE.free {st p : Addr} {H H1 : Hp} (a : SE st H H1) (h : H1 p = none) : H p = none := by
  by_cases e : p = st
  · subst e
    obtain ⟨x, y, h2, _⟩ := a.2
    rw [h2] at h; cases h
  · cases q : H p with
    | none => rfl
    | some o => rw [a.1 p o e q] at h; cases h
theorem StOk.ne {H : Hp} {st p : Addr} (o : StOk H st) (h : H p = none) : p ≠ st := fun e => by
  obtain ⟨x, y, h2, _⟩ := o
  rw [e, h2] at h; cases h
theorem SameX.nl {st : Addr} {H H' : Hp} (s : SameX st H H') (o : StOk H st) : NL H H' := fun b u e n => by
  by_cases z : b = st
  · subst z
    obtain ⟨x, y, h2, _⟩ := o
    rw [h2] at e; cases e
    exact absurd rfl (n _)
  · exact s b u z e
theorem SE.nl {st : Addr} {H H' : Hp} (s : SE st H H') (o : StOk H st) : NL H H' := s.1.nl o
theorem SE.upd {st : Addr} {H H1 : Hp} {p : Addr} {o : HO} (s : SE st H H1) (hp : H p = none) (hst : p ≠ st) : SE st H (L2.upd H1 p o) :=
  ⟨fun b u n e => by rw [upd_ne (ne_of_none e hp)]; exact s.1 b u n e, by
    obtain ⟨x, y, h2, h3⟩ := s.2
    exact ⟨x, y, by rw [upd_ne hst.symm]; exact h2, h3⟩⟩
/-! ### tables -/
/-- rows of ints: a list of tuples -/
def RT2 (D : Mi) (m : Nat) : Rep := fun i v H => TupA (RI (D i)) m v H
theorem RT2.rnl {D : Mi} {m : Nat} : RNL (RT2 D m) := fun i v H H' s h => TupA.nl RI.rnl s h
def RowsT (D : Mi) (n m : Nat) : V → Hp → Prop := LstA (RT2 D m) n
/-- a list of lists of ints -/
def RowsL (D : Mi) (n m : Nat) : V → Hp → Prop := LstA (fun i v H => LstA (RI (D i)) m v H) n
/-- a tuple of tuples of Ratios -/
def MQ (C : Addr) (G : Mx) (n m : Nat) : V → Hp → Prop := TupA (fun i v H => TupA (RQ C (G i)) m v H) n
def LQ (C : Addr) (G : Mx) (n m : Nat) : V → Hp → Prop := LstA (fun i v H => LstA (RQ C (G i)) m v H) n
theorem rowT_rnl {C : Addr} {G : Mx} {m : Nat} : RNL (fun i v H => TupA (RQ C (G i)) m v H) := fun i v H H' s h => TupA.nl RQ.rnl s h
theorem rowL_rs {C : Addr} {G : Mx} {m : Nat} : RS (fun i v H => LstA (RQ C (G i)) m v H) := fun i v H H' s h => LstA.same RQ.rnl.rs s h
theorem rowI_rs {D : Mi} {m : Nat} : RS (fun i v H => LstA (RI (D i)) m v H) := fun i v H H' s h => LstA.same RI.rnl.rs s h
theorem MQ.nl {C : Addr} {G : Mx} {n m : Nat} {v : V} {H H' : Hp} (s : NL H H') (h : MQ C G n m v H) : MQ C G n m v H' := TupA.nl rowT_rnl s h
theorem MQ.same {C : Addr} {G : Mx} {n m : Nat} {v : V} {H H' : Hp} (s : Same H H') (h : MQ C G n m v H) : MQ C G n m v H' := h.nl (NL.of s)
theorem LQ.same {C : Addr} {G : Mx} {n m : Nat} {v : V} {H H' : Hp} (s : Same H H') (h : LQ C G n m v H) : LQ C G n m v H' := LstA.same rowL_rs s h
theorem RowsL.same {D : Mi} {n m : Nat} {v : V} {H H' : Hp} (s : Same H H') (h : RowsL D n m v H) : RowsL D n m v H' := LstA.same rowI_rs s h
theorem RowsT.same {D : Mi} {n m : Nat} {v : V} {H H' : Hp} (s : Same H H') (h : RowsT D n m v H) : RowsT D n m v H' := LstA.same RT2.rnl.rs s h
/-! ### metrics -/
structure IsMet (n : Nat) (d : Mi) : Prop where
  zero : ∀ x, x < n → d x x = 0
  sy : ∀ x y, x < n → y < n → d x y = d y x
  pos : ∀ x y, x < n → y < n → x ≠ y → 0 < d x y
  big : ∀ x y, x < n → y < n → d x y ≤ 10000
  tri : ∀ x y z, x < n → y < n → z < n → d x z ≤ d x y + d y z
/-- what stands ahead of the shortest ways -/
structure PreMet (n : Nat) (d : Mi) : Prop where
  zero : ∀ x, x < n → d x x = 0
  sy : ∀ x y, x < n → y < n → d x y = d y x
  pos : ∀ x y, x < n → y < n → x ≠ y → 0 < d x y
  big : ∀ x y, x < n → y < n → d x y ≤ 10000
structure QMet (n : Nat) (r : Mx) : Prop where
  zero : ∀ x, x < n → r x x = 0
  sy : ∀ x y, x < n → y < n → r x y = r y x
  pos : ∀ x y, x < n → y < n → x ≠ y → 0 < r x y
  tri : ∀ x y z, x < n → y < n → z < n → 0 ≤ r x y + r y z - r x z
  sz : ∀ x y, x < n → y < n → Sz 16 2 (r x y)
/-- a Metric -/
def mf (n : Nat) (rows : V) : List (Str × V) := [("n", .int (n : Int)), ("rows", rows)]
def IsM (M C : Addr) (n : Nat) (r : Mx) (v : V) (H : Hp) : Prop := ∃ p dx vr, v = .ref p ∧ H p = some (.ins M dx (mf n vr)) ∧ MQ C r n n vr H
theorem IsM.nl {M C : Addr} {n : Nat} {r : Mx} {v : V} {H H' : Hp} (s : NL H H') (h : IsM M C n r v H) : IsM M C n r v H' := by
  obtain ⟨p, dx, vr, e, hp, a⟩ := h
  exact ⟨p, dx, vr, e, s _ _ hp (fun xs z => by cases z), a.nl s⟩
/-! ### the promises: draws -/
def spTake : Sp := fun vs H Q _ => ∃ (st : Addr) (m : Int), vs = [.ref st, .int m] ∧ StOk H st ∧ 0 < m ∧ m < 1073741824 ∧ ∀ v H', 0 ≤ v → v < m → SE st H H' → Q (.int v) H'
def spState (K : PySem.W.Frag) : Sp := fun vs H Q _ => ∃ (a : Addr) (ns : List Int), vs = [.ref a] ∧ SqL K H a (ns.map V.int) ∧ ∀ p H', Same H H' → StOk H' p → Q (.ref p) H'
def spOrder : Sp := fun vs H Q _ => ∃ (st : Addr) (n : Nat), vs = [.ref st, .int (n : Int)] ∧ StOk H st ∧ 0 < n ∧ n ≤ 16 ∧
  ∀ (p : Addr) (F : List Int) (H' : Hp), SE st H H' → H p = none → p ≠ st → H' p = some (.lst (F.map V.int)) → F.length = n → F.Nodup → (∀ x ∈ F, 0 ≤ x ∧ x < (n : Int)) → Q (.ref p) H'
/-- rows of a metric come -/
def OutRows (st : Addr) (n : Nat) (H : Hp) (Q : VK) : Prop := ∀ D v H', SE st H H' → IsMet n D → RowsT D n n v H' → Q v H'
def spShort : Sp := fun vs H Q _ => ∃ (r : Addr) (ps : List Addr) (n : Nat) (M : Mi), vs = [.ref r] ∧ H r = some (.lst (ps.map V.ref)) ∧ ps.length = n ∧ (∀ (i : Nat) (p : Addr), ps[i]? = some p → H p = some (.lst (rowI n (M i)))) ∧ n ≤ 7 ∧ PreMet n M ∧
  ∀ D v H', Same H H' → IsMet n D → RowsT D n n v H' → Q v H'
def spWeb : Sp := fun vs H Q _ => ∃ (st : Addr) (n : Nat) (t : Int), vs = [.ref st, .int (n : Int), .int t] ∧ StOk H st ∧ 1 ≤ n ∧ n ≤ 5 ∧ 0 < t ∧ t ≤ 10 ∧ OutRows st n H Q
def spGen : Sp := fun vs H Q _ => ∃ (st : Addr) (n : Nat), vs = [.ref st, .int (n : Int)] ∧ StOk H st ∧ 1 ≤ n ∧ n ≤ 5 ∧ OutRows st n H Q
def spRows : Sp := fun vs H Q _ => ∃ (st : Addr), vs = [.ref st, .int 5] ∧ StOk H st ∧ ∀ n, 1 ≤ n → n ≤ 5 → OutRows st n H Q
def spRenamed : Sp := fun vs H Q _ => ∃ (v : V) (o : Addr) (m : Nat) (D : Mi) (F : List Int), vs = [v, .ref o] ∧ RowsT D m m v H ∧ H o = some (.lst (F.map V.int)) ∧ (∀ x ∈ F, 0 ≤ x ∧ x < (m : Int)) ∧ F.length ≤ 7 ∧ m ≤ 7 ∧
  ∀ v H', Same H H' → RowsT (fun x y => D ((F.getD x 0).toNat) ((F.getD y 0).toNat)) F.length F.length v H' → Q v H'
def spFactor : Sp := fun vs H Q _ => ∃ st : Addr, vs = [.ref st] ∧ StOk H st ∧ ∀ p (a b : Int) H', SE st H H' → 1 ≤ a → a ≤ 4 → 1 ≤ b → b ≤ 3 → H' p = some (.tup [.int a, .int b]) → Q (.ref p) H'
/-! ### the promises: the law's reckoning -/
def Tw (d : Mi) : Mi := fun i j => d 0 (i + 1) ^ 2 + d 0 (j + 1) ^ 2 - d (i + 1) (j + 1) ^ 2
/-- a list of tuples, or of lists -/
def RowsE (D : Mi) (n m : Nat) (v : V) (H : Hp) : Prop := RowsT D n m v H ∨ RowsL D n m v H
def spRatios (C : Addr) : Sp := fun vs H Q _ => ∃ (v : V) (t : Addr) (D : Mi) (n : Nat) (a b : Int), vs = [v, .ref t] ∧ RowsE D n n v H ∧ n ≤ 8 ∧ H t = some (.tup [.int a, .int b]) ∧ 0 < b ∧ b < 100 ∧ 0 ≤ a ∧ a < 100 ∧ (∀ i j, i < n → j < n → (D i j).natAbs < 2 ^ 40) ∧
  ∀ v H', Same H H' → MQ C (fun i j => ((D i j * a : Int) : Rat) / (b : Rat)) n n v H' → Q v H'
def spIs : Sp := fun vs H Q _ => ∃ a b : Bool, vs = [.bl a, .bl b] ∧ Q (.bl (a == b)) H
def spDet (n : Nat) : Sp := fun vs H Q _ => ∃ (v : V) (k : Nat) (M : Mi), vs = [v] ∧ RowsL M k k v H ∧ k ≤ n ∧ (∀ i j, i < k → j < k → (M i j).natAbs < 2 ^ 40) ∧ ∀ H', Same H H' → Q (.int (detF k M)) H'
/-- a list of tuples of places -/
def RP (L : List (List Nat)) : Rep := fun i v H => ∃ S, L[i]? = some S ∧ TupA (RI fun j => ((S.getD j 0 : Nat) : Int)) S.length v H
theorem RP.rnl {L : List (List Nat)} : RNL (RP L) := fun i v H H' s ⟨S, e, h⟩ => ⟨S, e, TupA.nl RI.rnl s h⟩
def spParts : Sp := fun vs H Q _ => ∃ n : Nat, vs = [.int (n : Int)] ∧ n ≤ 4 ∧ ∀ v H', Same H H' → LstA (RP (parts n)) (parts n).length v H' → Q v H'
def spTwice : Sp := fun vs H Q _ => ∃ (v : V) (n : Nat) (D : Mi), vs = [v] ∧ RowsE D (n + 1) (n + 1) v H ∧ n ≤ 7 ∧ (∀ i j, i < n + 1 → j < n + 1 → (D i j).natAbs < 2 ^ 20) ∧ ∀ v H', Same H H' → RowsL (Tw D) n n v H' → Q v H'
def spRank : Sp := fun vs H Q _ => ∃ (v : V) (n : Nat) (T : Mi), vs = [v] ∧ RowsL T n n v H ∧ n ≤ 4 ∧ (∀ i j, i < n → j < n → (T i j).natAbs < 2 ^ 40) ∧
  ∀ (r : Nat) H', Same H H' → (∀ S ∈ parts n, detF S.length (sub T S) ≠ 0 → S.length ≤ r) → (∃ S ∈ parts n, S.length = r ∧ detF S.length (sub T S) ≠ 0) → Q (.int (r : Int)) H'
/-- points in three dimensions -/
abbrev Pt := Int × Int × Int
def RPt (L : List Pt) : Rep := fun i v H => ∃ (p : Addr) (a : Pt), L[i]? = some a ∧ v = .ref p ∧ H p = some (.tup [.int a.1, .int a.2.1, .int a.2.2])
theorem RPt.rnl {L : List Pt} : RNL (RPt L) := fun i v H H' s ⟨p, a, e, hv, h⟩ => ⟨p, a, e, hv, s _ _ h (fun xs z => by cases z)⟩
def PtOk (L : List Pt) : Prop := 1 ≤ L.length ∧ L.length ≤ 5 ∧ L.Nodup ∧ ∀ a ∈ L, a.1.natAbs ≤ 20 ∧ a.2.1.natAbs ≤ 20 ∧ a.2.2.natAbs ≤ 20
def spTold : Sp := fun vs H Q _ => ∃ st : Addr, vs = [.ref st] ∧ StOk H st ∧ ∀ L v H', SE st H H' → PtOk L → LstA (RPt L) L.length v H' → Q v H'
def d2 (a b : Pt) : Int := (a.1 - b.1) ^ 2 + (a.2.1 - b.2.1) ^ 2 + (a.2.2 - b.2.2) ^ 2
def spRoot : Sp := fun vs H Q _ => ∃ v : Int, vs = [.int v] ∧ 0 ≤ v ∧ v < 1000000 ∧ ∀ (r : Int) H', Same H H' → (0 ≤ r ∧ r * r = v) ∨ r = -1 → Q (.int r) H'
def pAt (L : List Pt) (i : Nat) : Pt := L.getD i (0, 0, 0)
def spDist : Sp := fun vs H Q _ => ∃ (v : V) (L : List Pt), vs = [v] ∧ LstA (RPt L) L.length v H ∧ PtOk L ∧
  ∀ (D : Mi) v H', Same H H' → (∀ i j, i < L.length → j < L.length → (0 ≤ D i j ∧ D i j * D i j = d2 (pAt L i) (pAt L j)) ∨ D i j = -1) → RowsL D L.length L.length v H' → Q v H'
def sumQ (f : Nat → Rat) : Nat → Rat
  | 0 => 0
  | n + 1 => sumQ f n + f n
def spSum (C : Addr) : Sp := fun vs H Q _ => ∃ (v : V) (n : Nat) (f : Nat → Rat), vs = [v] ∧ LstA (RQ C f) n v H ∧ n ≤ 4 ∧ (∀ i, i < n → Sz 1600 1600 (f i)) ∧ ∀ v H', Same H H' → IsR C (sumQ f n) v H' → Q v H'
/-! ### the promises: the program -/
def spZero (C : Addr) : Sp := fun vs H Q _ => vs = [] ∧ ∀ v H', Same H H' → IsR C 0 v H' → Q v H'
def gramQ (r : Mx) : Mx := fun i j => (r 0 (i + 1) * r 0 (i + 1) + r 0 (j + 1) * r 0 (j + 1) - r (i + 1) (j + 1) * r (i + 1) (j + 1)) / 2
def prodQ (r : Mx) : Mx := fun i j => (r 0 (i + 1) + r 0 (j + 1) - r (i + 1) (j + 1)) / 2
def spProd (C : Addr) : Sp := fun vs H Q _ => ∃ (v : V) (n : Nat) (r : Mx), vs = [v] ∧ LQ C r (n + 1) (n + 1) v H ∧ n ≤ 7 ∧ (∀ i j, i < n + 1 → j < n + 1 → Sz 40 8 (r i j)) ∧ ∀ v H', Same H H' → MQ C (prodQ r) n n v H' → Q v H'
def spGram (M C : Addr) : Sp := fun vs H Q _ => ∃ (v : V) (n : Nat) (r : Mx), vs = [v] ∧ IsM M C (n + 1) r v H ∧ n ≤ 7 ∧ (∀ i j, i < n + 1 → j < n + 1 → Sz 16 2 (r i j)) ∧ ∀ v H', Same H H' → MQ C (gramQ r) n n v H' → Q v H'
def optV : Option Nat → V
  | none => .non
  | some i => .int (i : Int)
def spNext (C : Addr) : Sp := fun vs H Q _ => ∃ (v : V) (n : Nat) (W : Mx), vs = [v] ∧ LQ C W n n v H ∧ n ≤ 8 ∧ ∀ o H', Same H H' → NP n W o → Q (optV o) H'
/-- the steps of elimination, a list of tuples -/
def RSt (C : Addr) (n : Nat) (st : List Stp) : Rep := fun k v H => ∃ (p : Addr) (s : Stp) (vc vl : V), v = .ref p ∧ st[k]? = some s ∧ H p = some (.tup [.int (s.1 : Int), vc, vl]) ∧ IsR C s.2.1 vc H ∧ LstA (RQ C s.2.2) n vl H
def spElim (C : Addr) : Sp := fun vs H Q _ => ∃ (v : V) (n : Nat) (G : Mx), vs = [v] ∧ MQ C G n n v H ∧ n ≤ 4 ∧ (∀ a b, G a b = G b a) ∧ Com 32 5 n G ∧
  ∀ (W : Mx) (st : List Stp) (lo : Nat) (p : Addr) (vw vs : V) (H' : Hp), EI n G W st lo → NP n W none → Same H H' → H' p = some (.tup [vw, vs]) → LQ C W n n vw H' → LstA (RSt C n st) st.length vs H' → Q (.ref p) H'
def Fails (n : Nat) (G : Mx) : Prop := ∃ W st lo, EI n G W st lo ∧ NP n W none ∧ ∃ a b, a < n ∧ b < n ∧ W a b ≠ 0
def Good (n : Nat) (G : Mx) (st : List Stp) : Prop := ∃ W lo, EI n G W st lo ∧ ∀ a b, a < n → b < n → W a b = 0
/-- basis and squares -/
def basisM (st : List Stp) : Mx := fun j k => stL st k j
def IsSq (C : Addr) (n : Nat) (st : List Stp) (v : V) (H : Hp) : Prop := ∃ (p : Addr) (vb vs : V), v = .ref p ∧ H p = some (.tup [vb, vs]) ∧ MQ C (basisM st) n st.length vb H ∧ TupA (RQ C (stC st)) st.length vs H
def spSquares (C : Addr) : Sp := fun vs H Q _ => ∃ (v : V) (n : Nat) (G : Mx), vs = [v] ∧ MQ C G n n v H ∧ n ≤ 4 ∧ (∀ a b, G a b = G b a) ∧ Com 32 5 n G ∧
  (Fails n G → ∀ H', Same H H' → Q .non H') ∧ ∀ st v H', Good n G st → Same H H' → IsSq C n st v H' → Q v H'
/-- a metric whose Gram matrix is G -/
def MetG (M C : Addr) (n : Nat) (G : Mx) (v : V) (H : Hp) : Prop := ∃ r, IsM M C (n + 1) r v H ∧ n ≤ 4 ∧ (∀ i j, i < n + 1 → j < n + 1 → Sz 16 2 (r i j)) ∧ (∀ a b, a < n → b < n → gramQ r a b = G a b) ∧ (∀ a b, G a b = G b a) ∧ Com 32 5 n G
def spEuc (M C : Addr) : Sp := fun vs H Q _ => ∃ (v : V) (n : Nat) (G : Mx), vs = [v] ∧ MetG M C n G v H ∧ (Fails n G → ∀ H', Same H H' → Q (.bl false) H') ∧ ∀ st H', Good n G st → Same H H' → Q (.bl true) H'
/-- the way out of Refused("euclid") -/
def OutE (F : Addr) (H : Hp) (E : XK) : Prop := ∀ (d : Addr) (H' : Hp), Same H H' → H' d = some (.xd [(("reason" : Str), .str "euclid")]) → E (.ref F) (some d) H'
def spToldSq (M C F : Addr) : Sp := fun vs H Q E => ∃ (v : V) (n : Nat) (G : Mx), vs = [v] ∧ MetG M C n G v H ∧ (Fails n G → OutE F H E) ∧ ∀ st v H', Good n G st → Same H H' → IsSq C n st v H' → Q v H'
def spDim (M C F : Addr) : Sp := fun vs H Q E => ∃ (v : V) (n : Nat) (G : Mx), vs = [v] ∧ MetG M C n G v H ∧ (Fails n G → OutE F H E) ∧ ∀ st H', Good n G st → Same H H' → Q (.int (st.length : Int)) H'
def coordM (st : List Stp) : Mx := fun x k => if x = 0 then 0 else stL st k (x - 1)
def IsCo (C : Addr) (n : Nat) (st : List Stp) (v : V) (H : Hp) : Prop := ∃ (p : Addr) (vb vs : V), v = .ref p ∧ H p = some (.tup [vb, vs]) ∧ MQ C (coordM st) (n + 1) st.length vb H ∧ TupA (RQ C (stC st)) st.length vs H
def spCoord (M C F : Addr) : Sp := fun vs H Q E => ∃ (v : V) (n : Nat) (G : Mx), vs = [v] ∧ MetG M C n G v H ∧ (Fails n G → OutE F H E) ∧ ∀ st v H', Good n G st → Same H H' → IsCo C n st v H' → Q v H'
def spIsRat (C : Addr) : Sp := fun vs H Q _ => ∃ (v : V) (a : Rat), vs = [v] ∧ IsR C a v H ∧ Q (.bl true) H
def spAsR (C : Addr) : Sp := fun vs H Q _ => ∃ (v : V) (a : Rat), vs = [v] ∧ IsR C a v H ∧ Q v H
def spTaken (C : Addr) : Sp := fun vs H Q _ => ∃ (v : V) (n : Nat) (r : Mx), vs = [v] ∧ MQ C r n n v H ∧ 1 ≤ n ∧ n ≤ 8 ∧ ∀ v H', Same H H' → MQ C r n n v H' → Q v H'
def spTri (C : Addr) : Sp := fun vs H Q _ => ∃ (v : V) (n : Nat) (r : Mx), vs = [v] ∧ MQ C r n n v H ∧ n ≤ 8 ∧ QMet n r ∧ ∀ H', Same H H' → Q (.bl true) H'
def spMInit (M C : Addr) : Sp := fun vs H Q _ => ∃ (p dx : Addr) (v : V) (n : Nat) (r : Mx), vs = [.ref p, v] ∧ H p = some (.ins M dx []) ∧ MQ C r n n v H ∧ 1 ≤ n ∧ n ≤ 8 ∧ QMet n r ∧ ∀ H', SameX p H H' → IsM M C n r (.ref p) H' → Q .non H'
/-! ### the promises: the end -/
def spReason (M C : Addr) : Sp := fun vs H Q _ => ∃ (k : Int) (v : V) (n : Nat) (G : Mx), vs = [.int k, v] ∧ MetG M C n G v H ∧ (Fails n G → ∀ H', Same H H' → Q (.str "euclid") H') ∧ (∀ st H', Good n G st → Same H H' → Q (.str "none") H')
def spHold (M C : Addr) : Sp := fun vs H Q _ => ∃ (v u : V) (n : Nat) (G r : Mx) (st : List Stp), vs = [v, u] ∧ IsM M C (n + 1) r v H ∧ n ≤ 4 ∧ (∀ i j, i < n + 1 → j < n + 1 → Sz 16 2 (r i j)) ∧ QMet (n + 1) r ∧ (∀ a b, a < n → b < n → gramQ r a b = G a b) ∧ Good n G st ∧ IsCo C n st u H ∧
  ∀ H', Same H H' → Q (.bl true) H'
def spLaw (K : PySem.W.Frag) : Sp := fun vs H Q _ => ∃ (a : Addr) (ns : List Int), vs = [.ref a] ∧ SqL K H a (ns.map V.int) ∧ ∀ H', Q (.bl true) H'
end KW
end

section
set_option Elab.async false
set_option linter.all false
set_option maxRecDepth 100000
set_option maxHeartbeats 4000000
set_option exponentiation.threshold 100000
namespace KW
open PySem PySem.Spec PyProof.Rows L2 K38
section
variable {P : Program} {w : World} {K : PySem.W.Frag} {mg : Str → Option Value} {base : Heap} {C : Addr}
abbrev s_take : Stmt := top 31
abbrev N_take : List Str := ["_law_state_here", "_law_m", "_law_value"]
theorem sc_take : FnScope N_take ["_law_state_here", "_law_m"] (defScope s_take) := ⟨rfl, rfl, rfl, by decide +kernel, rfl, by decide +kernel, by decide +kernel⟩
theorem ok_take {f : Addr} {fd : FuncData} (F : Fun K "_law_take" "_law_take" s_take f fd) (B : NM mg) : FnOk P w K mg base CX0 2 f fd ["_law_state_here", "_law_m"] spTake := by
  refine F.ok sc_take (fun vs H Q E h => ?_) (fun cdv A outer s H vs Q E hr h => ?_)
  · obtain ⟨st, m, rfl, _⟩ := h
    rfl
  · obtain ⟨st, m, rfl, ⟨a, b, hs, b0, b1⟩, m0, m1, q⟩ := h
    refine ⟨_, (pss_cons (ps_if (pt_cmpR op_gt (pe_ix ix_list (pv 0) pe_int (fun _ _ => rfl)) pe_int (nomark _)) (pss_cons (ps_set (i := 2) sc_take.nd rfl (Or.inl rfl) (pe_op op_mod (pe_callTy call_int1 (by rfl) B.int (by decide +kernel) (pa_cons (pe_ix ix_list (pv 0) pe_int (fun _ _ => rfl)) pa_nil)) (pv 1)))
  (pss_cons (ps_asg (pe_op op_fdivN (pe_ix ix_list (pv 0) pe_int (fun _ _ => rfl)) (pv 1)) (pg_sub (pv 0) pe_int set_list))
  (pss_one (ps_ret (pv 2))))) pss_nil)
  (pss_cons (ps_asg (pe_op op_mod (pe_callTy call_int1 (by rfl) B.int (by decide +kernel) (pa_cons (pe_op op_add (pe_op op_mul (pe_ix ix_list (pv 0) pe_int (fun _ _ => rfl)) pe_int) pe_int) pa_nil)) pe_int) (pg_sub (pv 0) pe_int set_list))
  (pss_one (ps_ret (pe_op op_mod (pe_callTy call_int1 (by rfl) B.int (by decide +kernel) (pa_cons (pe_op op_fdiv (pe_ix ix_list (pv 0) pe_int (fun _ _ => rfl)) pe_int) pa_nil)) (pv 1)))))), ?_⟩
    have i0 : atI [V.int a, V.int b] 0 = some (.int a) := rfl
    refine ⟨_, rfl, st, _, _, _, rfl, rfl, SqL.of hs, i0, _, _, rfl, rfl, _, rfl, bin2 (fun ha => ?_) fun ha => ?_⟩
    · refine ⟨_, rfl, st, _, _, _, rfl, rfl, SqL.of hs, i0, .inl ⟨_, rfl, ?_⟩⟩
      refine ⟨_, rfl, _, _, rfl, rfl, m0, ?_⟩
      refine ⟨_, rfl, st, _, _, _, rfl, rfl, SqL.of hs, i0, _, rfl, _, _, rfl, rfl, ⟨by omega, by omega⟩, ?_⟩
      refine ⟨_, rfl, st, _, _, _, rfl, rfl, hs, rfl, ?_⟩
      refine ⟨_, rfl, q _ _ (Int.emod_nonneg _ (by omega)) (Int.emod_lt_of_pos _ m0) ⟨upd_x, _, _, upd_same, b0, b1⟩⟩
    · have i1 : atI [V.int a, V.int b] 1 = some (.int b) := rfl
      refine ⟨_, rfl, st, _, _, _, rfl, rfl, SqL.of hs, i1, _, _, rfl, rfl, .inl ⟨by omega, by omega⟩, ?_⟩
      refine ⟨_, _, rfl, rfl, .inl ⟨_, rfl, ?_⟩⟩
      refine ⟨_, _, rfl, rfl, (by show (0 : Int) < 2147483647; decide), ?_⟩
      refine ⟨_, rfl, st, _, _, _, rfl, rfl, hs, rfl, ?_⟩
      have i2 : ∀ z : V, atI ([V.int a, V.int b].set 1 z) 1 = some z := fun z => rfl
      refine ⟨_, rfl, st, _, _, _, rfl, rfl, SqL.of upd_same, i2 _, _, _, rfl, rfl, ⟨by decide, by decide⟩, .inl ⟨_, rfl, ?_⟩⟩
      refine ⟨_, rfl, _, _, rfl, rfl, m0, ?_⟩
      exact q _ _ (Int.emod_nonneg _ (by omega)) (Int.emod_lt_of_pos _ m0) ⟨upd_x, _, _, upd_same, Int.emod_nonneg _ (by decide), Int.emod_lt_of_pos _ (by decide)⟩
end
end KW
end

section
set_option Elab.async false
set_option linter.all false
set_option maxRecDepth 100000
set_option maxHeartbeats 4000000
set_option exponentiation.threshold 100000
namespace KW
open PySem PySem.Spec PyProof.Rows L2 K38
section
variable {P : Program} {w : World} {K : PySem.W.Frag} {mg : Str → Option Value} {base : Heap} {C : Addr}
theorem LstA.src {R : Rep} {n : Nat} {v : V} {H : Hp} (h : LstA R n v H) : ∃ p vs, v = .ref p ∧ H p = some (.lst vs) ∧ Arr R n vs H ∧ Src (Itl K p) n (fun i => vs.getD i .non) H := by
  obtain ⟨p, vs, e, hp, a⟩ := h
  refine ⟨p, vs, e, hp, a, ?_⟩
  have s := src_list (K := K) (SqL.of hp)
  rw [a.1] at s
  exact s
theorem TupA.src {R : Rep} {n : Nat} {v : V} {H : Hp} (h : TupA R n v H) : ∃ p vs, v = .ref p ∧ H p = some (.tup vs) ∧ Arr R n vs H ∧ Src (Itt K p) n (fun i => vs.getD i .non) H := by
  obtain ⟨p, vs, e, hp, a⟩ := h
  refine ⟨p, vs, e, hp, a, ?_⟩
  have s := src_tup (K := K) (SqT.of hp)
  rw [a.1] at s
  exact s
theorem Arr.item {R : Rep} {n : Nat} {vs : List V} {H : Hp} (h : Arr R n vs H) {i : Nat} (hi : i < n) : vs[i]? = some (vs.getD i .non) ∧ R i (vs.getD i .non) H := by
  obtain ⟨v, e, r⟩ := h.get hi
  have e2 : vs.getD i .non = v := by simp [List.getD, e]
  rw [e2]
  exact ⟨e, r⟩
theorem Arr.app {R R1 R2 : Rep} {n m : Nat} {vs us : List V} {H : Hp} (h : Arr R1 n vs H) (h2 : Arr R2 m us H) (a : ∀ i v, i < n → R1 i v H → R i v H) (b : ∀ i v, i < m → R2 i v H → R (n + i) v H) : Arr R (n + m) (vs ++ us) H := by
  refine ⟨by rw [List.length_append, h.1, h2.1], fun i v e => ?_⟩
  rcases Nat.lt_or_ge i vs.length with l | l
  · rw [List.getElem?_append_left l] at e
    exact a i v (h.lt e) (h.2 i v e)
  · rw [List.getElem?_append_right l] at e
    have q := b (i - vs.length) v (h2.lt e) (h2.2 _ v e)
    have e3 : n + (i - vs.length) = i := by rw [h.1] at l ⊢; omega
    rw [e3] at q
    exact q
theorem bigR_of {a b c d : Nat} {x y : Rat} (hx : Sz a b x) (hy : Sz c d y) (h1 : a ≤ 100000) (h2 : c ≤ 100000) (h3 : b + d ≤ 9000) : bigR x y := by
  refine ⟨⟨b, hx.mono h1 (Nat.le_refl _)⟩, ⟨d, hy.mono h2 (Nat.le_refl _)⟩, ?_⟩
  have q : x.den * y.den < 2 ^ b * 2 ^ d := Nat.mul_lt_mul'' hx.2 hy.2
  rw [← Nat.pow_add] at q
  exact Nat.lt_of_lt_of_le q (Nat.pow_le_pow_right (by decide) h3)
theorem bigD_of {a b c d : Nat} {x y : Rat} (hx : Sz a b x) (hy : Sz c d y) (h0 : 0 < y) (h1 : a ≤ 100000) (h2 : d ≤ 100000) (h3 : b + c ≤ 9000) : bigD x y := by
  refine ⟨h0, ⟨b, hx.mono h1 (Nat.le_refl _)⟩, ?_, Nat.lt_of_lt_of_le hy.2 (Nat.pow_le_pow_right (by decide) h2)⟩
  have q : x.den * y.num.natAbs < 2 ^ b * 2 ^ c := Nat.mul_lt_mul'' hx.2 hy.1
  rw [← Nat.pow_add] at q
  exact Nat.lt_of_lt_of_le q (Nat.pow_le_pow_right (by decide) h3)
theorem cut_take (us : List V) {j : Nat} (h : j ≤ us.length) : cutV us none (some (j : Int)) = us.take j := by
  unfold cutV
  rw [HT.sIx_nat, HT.sIx_none, List.drop_zero, Nat.min_eq_left h, Nat.sub_zero]
theorem cut_drop (us : List V) {j : Nat} (h : j ≤ us.length) : cutV us (some (j : Int)) none = us.drop j := by
  unfold cutV
  rw [HT.sIx_nat, HT.sIx_none, Nat.min_eq_left h]
  exact List.take_of_length_le (by rw [List.length_drop]; omega)
/-- an item of a list or of a tuple -/
theorem ixE {H : Hp} {p : Addr} {us : List V} {i : Int} {v : V} {Q : VK} (h : H p = some (.lst us) ∨ H p = some (.tup us)) (e : atI us i = some v) (q : Q v H) : rIx K (.ref p) (.int i) H Q := by
  rcases h with h | h
  · exact .inl ⟨p, us, i, v, rfl, rfl, SqL.of h, e, q⟩
  · exact .inr (.inl ⟨p, us, i, v, rfl, rfl, SqT.of h, e, q⟩)
theorem RowsL.row {D : Mi} {n m : Nat} {v : V} {H : Hp} (h : RowsL D n m v H) : ∃ p vs, v = .ref p ∧ H p = some (.lst vs) ∧ vs.length = n ∧ ∀ i, i < n → ∃ q, vs[i]? = some (.ref q) ∧ H q = some (.lst (rowI m (D i))) := by
  obtain ⟨p, vs, e, hp, a⟩ := h
  refine ⟨p, vs, e, hp, a.1, fun i hi => ?_⟩
  obtain ⟨u, e1, q, us, rfl, hq, b⟩ := a.get hi
  rw [arr_rowI b] at hq
  exact ⟨q, e1, hq⟩
theorem RowsT.row {D : Mi} {n m : Nat} {v : V} {H : Hp} (h : RowsT D n m v H) : ∃ p vs, v = .ref p ∧ H p = some (.lst vs) ∧ vs.length = n ∧ ∀ i, i < n → ∃ q, vs[i]? = some (.ref q) ∧ H q = some (.tup (rowI m (D i))) := by
  obtain ⟨p, vs, e, hp, a⟩ := h
  refine ⟨p, vs, e, hp, a.1, fun i hi => ?_⟩
  obtain ⟨u, e1, q, us, rfl, hq, b⟩ := a.get hi
  rw [arr_rowI b] at hq
  exact ⟨q, e1, hq⟩
theorem RowsE.row {D : Mi} {n m : Nat} {v : V} {H : Hp} (h : RowsE D n m v H) : ∃ p vs, v = .ref p ∧ H p = some (.lst vs) ∧ vs.length = n ∧ ∀ i, i < n → ∃ q, vs[i]? = some (.ref q) ∧ (H q = some (.lst (rowI m (D i))) ∨ H q = some (.tup (rowI m (D i)))) := by
  rcases h with h | h
  · obtain ⟨p, vs, e, hp, l, a⟩ := h.row
    exact ⟨p, vs, e, hp, l, fun i hi => let ⟨q, e, h⟩ := a i hi; ⟨q, e, .inr h⟩⟩
  · obtain ⟨p, vs, e, hp, l, a⟩ := h.row
    exact ⟨p, vs, e, hp, l, fun i hi => let ⟨q, e, h⟩ := a i hi; ⟨q, e, .inl h⟩⟩
theorem row_at {m : Nat} {f : Nat → Int} {j : Nat} (h : j < m) : atI (rowI m f) (j : Int) = some (.int (f j)) := atI_nat (rowI_get h)
/-! ### a comprehension's reading by name -/
def tLcG (wi : TI) (g : TG) (tt : TT) (te : TE) (vs : List Nat) : TE := fun σ H Q => wi σ H fun J H1 => LcG J g tt te vs σ H1 Q
theorem lcG {X : Cx} {e : Expr} {wi : TI} {g : TG} {tt : TT} {te : TE} {vs : List Nat} (h : PE X e (tLc wi g tt te vs)) : PE X e (tLcG wi g tt te vs) := h
theorem slcG {X : Cx} {st : Stmt} {wi : TI} {g g2 : TG} {tt : TT} {te : TE} {vs : List Nat} (h : PS X st (tAsg (tLc wi g tt te vs) g2)) : PS X st (tAsg (tLcG wi g tt te vs) g2) := h
/-! ### the rules where the written part stands by its own name (within a comprehension) -/
section
variable {X : Cx} (K : PySem.W.Frag)
theorem ix_listK (h : X.K = K) : IxR X (rIxL K) := h ▸ ix_list
theorem ix_tupK (h : X.K = K) : IxR X (rIxT K) := h ▸ ix_tup
theorem ix_seqK (h : X.K = K) : IxR X (rIx K) := h ▸ ix_seq
theorem sl_listK (h : X.K = K) : SlR X (rSlL K) := h ▸ sl_list
theorem op_catAK (h : X.K = K) : OpR X (binaryOp .Add) (rCatA K) := h ▸ op_catA
theorem op_inK (h : X.K = K) : OpR X (compareOp .In) (rIn K false) := h ▸ op_in_seq
theorem pi_listK {tg l : Expr} {tl : TE} (h : X.K = K) (hl : PE X l tl) : PI X tg l (iList K tl) := h ▸ pi_list hl
theorem pi_tupK {tg l : Expr} {tl : TE} (h : X.K = K) (hl : PE X l tl) : PI X tg l (iTup K tl) := h ▸ pi_tup hl
theorem pe_fldK {e : Expr} {f : Str} {pos : Pos} {ta : TE} (h : X.K = K) (he : PE X e ta) (hb : attributeBase e f X.env (eval e X.env) = eval e X.env) : PE X (.Attribute e f pos) (tFld K ta f) := h ▸ pe_fld he hb
theorem bmK {e : Expr} {T : String} {r : V → List V → Hp → VK → Prop} {to : TE} {t : TA} (h : X.K = K) (hp : PE X e (tBM X.K T r to t)) : PE X e (tBM K T r to t) := h ▸ hp
theorem tupK {e : Expr} {n : Nat} {t : TGs} (h : X.K = K) (hp : PG X e (gTup X.K n t)) : PG X e (gTup K n t) := h ▸ hp
def rLenK : List V → Hp → VK → Prop := fun xs H Q => ∃ p ys, xs = [.ref p] ∧ (SqL K H p ys ∨ SqT K H p ys) ∧ Q (.int (ys.length : Int)) H
theorem call_lenK (h : X.K = K) : CallR X (.builtin "len") (rLenK K) := by subst h; exact call_len_seq
def rTupK : List V → Hp → VK → Prop := fun xs H Q => ∃ p ys, xs = [.ref p] ∧ ((SqL K H p ys ∧ ∀ l, H l = none → Q (.ref l) (upd H l (.tup ys))) ∨ (SqT K H p ys ∧ Q (.ref p) H))
theorem call_tupleK (h : X.K = K) : CallR X (.type "tuple") (rTupK K) := by subst h; exact call_tuple_of
def rLstK : List V → Hp → VK → Prop := fun xs H Q => ∃ p ys, xs = [.ref p] ∧ (SqL K H p ys ∨ SqT K H p ys) ∧ ∀ l, H l = none → Q (.ref l) (upd H l (.lst ys))
theorem call_listK (h : X.K = K) : CallR X (.type "list") (rLstK K) := by subst h; exact call_list_of
theorem cr_sumK (h : X.K = K) (hc : X.calm = true) : CallR X (.builtin "sum") (rSum K) := by subst h; exact cr_sum hc
end
end
end KW
end

section
set_option Elab.async false
set_option linter.all false
set_option maxRecDepth 100000
set_option maxHeartbeats 4000000
set_option exponentiation.threshold 100000
namespace KW
open PySem PySem.Spec PyProof.Rows L2 K38
section
variable {P : Program} {w : World} {K : PySem.W.Frag} {mg : Str → Option Value} {base : Heap} {C : Addr}
abbrev s_state : Stmt := top 30
abbrev N_state : List Str := ["_law_script", "_law_seed", "_law_total", "_law_cell"]
theorem sc_state : FnScope N_state ["_law_script"] (defScope s_state) := ⟨rfl, rfl, rfl, by decide +kernel, rfl, by decide +kernel, by decide +kernel⟩
theorem cut_mem {xs : List V} {lo hi : Option Int} {v : V} {i : Nat} (h : (cutV xs lo hi)[i]? = some v) : v ∈ xs := by
  unfold cutV at h
  exact List.mem_of_mem_drop (List.mem_of_mem_take (List.mem_of_getElem? h))
theorem ok_state {f : Addr} {fd : FuncData} (F : Fun K "_law_state" "_law_state" s_state f fd) (B : NM mg) : FnOk P w K mg base CX0 2 f fd ["_law_script"] (spState K) := by
  refine F.ok sc_state (fun vs H Q E h => ?_) (fun cdv A outer s H vs Q E hr h => ?_)
  · obtain ⟨a, ns, rfl, _⟩ := h
    rfl
  · obtain ⟨a, ns, rfl, hS, q⟩ := h
    refine ⟨_, (pss_cons (ps_set (i := 1) sc_state.nd rfl (Or.inl rfl) pe_int)
  (pss_cons (ps_set (i := 2) sc_state.nd rfl (Or.inl rfl) pe_int)
  (pss_cons (ps_for PassesOwn.never rfl (pi_list (pe_slice sl_list (pv 0) po_none (po_some pe_int))) (pg_name (i := 3) sc_state.nd rfl (Or.inl rfl))
  (pss_cons (ps_set (i := 1) sc_state.nd rfl (Or.inl rfl) (pe_op op_add (pe_op op_mul (pv 1) pe_int) (pe_callB call_abs (by rfl) B.abs (by decide +kernel) (pa_cons (pv 3) pa_nil))))
  (pss_one (ps_set (i := 2) sc_state.nd rfl (Or.inl rfl) (pe_op op_mod (pe_callTy call_int1 (by rfl) B.int (by decide +kernel) (pa_cons (pe_op op_add (pe_op op_mul (pv 2) pe_int) (pv 3)) pa_nil)) pe_int)))))
  (pss_one (ps_ret (pe_lst (pa_cons (pv 1) (pa_cons (pv 2) pa_nil)))))))), ?_⟩
    refine ⟨_, rfl, _, rfl, a, _, rfl, hS, fun p hp => ?_⟩
    refine ⟨p, rfl, ⟨_, SqL.of upd_same⟩, for_list (K := K) (a := p) (xs := cutV (ns.map V.int) none (some 63)) (fun i σ H' => ∃ (x y : Int) (v : Option V), σ = [some (.ref a), some (.int x), some (.int y), v] ∧ 0 ≤ y ∧ y < 2147483647 ∧ Same (upd H p (.lst (cutV (ns.map V.int) none (some 63)))) H')
      ⟨0, 1, none, rfl, by decide, by decide, Same.refl _⟩ (fun i σ H' _ ⟨_, _, _, _, _, _, s1⟩ => SqL.of (s1 _ _ upd_same)) ?_ ?_⟩
    · rintro i y σ H' hi ⟨x, z, v, rfl, z0, z1, s1⟩
      obtain ⟨c, _, rfl⟩ := List.mem_map.mp (cut_mem hi)
      refine ⟨_, rfl, _, _, rfl, rfl, .inr ⟨by decide, by decide⟩, _, rfl, _, rfl, _, _, rfl, rfl, ?_⟩
      refine ⟨_, rfl, _, _, rfl, rfl, .inl ⟨by omega, by omega⟩, _, rfl, _, _, rfl, rfl, .inl ⟨_, rfl, ?_⟩⟩
      refine ⟨_, _, rfl, rfl, (by show (0 : Int) < 2147483647; decide), ?_⟩
      exact ⟨_, _, _, rfl, Int.emod_nonneg _ (by decide), Int.emod_lt_of_pos _ (by decide), s1⟩
    · rintro σ H' ⟨x, z, v, rfl, z0, z1, s1⟩
      refine ⟨_, rfl, _, rfl, (by show 2 ≤ sizeLine; decide), fun r hr => ?_⟩
      exact q r _ (((Same.upd hp).trans s1).trans (Same.upd hr)) ⟨x, z, upd_same, z0, z1⟩
abbrev s_order_of : Stmt := top 32
abbrev N_order_of : List Str := ["_law_state_here", "_law_n", "_law_left", "_law_found", "_law_k"]
theorem sc_order_of : FnScope N_order_of ["_law_state_here", "_law_n"] (defScope s_order_of) := ⟨rfl, rfl, rfl, by decide +kernel, rfl, by decide +kernel, by decide +kernel⟩
theorem erase_map (L : List Int) (k : Nat) : (L.map V.int).eraseIdx k = (L.eraseIdx k).map V.int := by
  rw [List.eraseIdx_eq_take_drop_succ, List.eraseIdx_eq_take_drop_succ, List.map_append, List.map_take, List.map_drop]
/-- one is taken out of the left ones -/
theorem perm_pop {α : Type} (F L : List α) {k : Nat} {y : α} (h : L[k]? = some y) : (F ++ [y] ++ L.eraseIdx k).Perm (F ++ L) := by
  obtain ⟨hk, e⟩ := List.getElem?_eq_some_iff.mp h
  subst e
  rw [List.append_assoc]
  refine List.Perm.append_left F ?_
  rw [List.eraseIdx_eq_take_drop_succ]
  have e2 : L = L.take k ++ L[k] :: L.drop (k + 1) := by
    rw [List.getElem_cons_drop, List.take_append_drop]
  refine List.Perm.trans ?_ (List.Perm.of_eq e2.symm)
  show (L[k] :: (L.take k ++ L.drop (k + 1))).Perm _
  exact (List.perm_middle).symm
theorem ok_order {f fT : Addr} {fd fdT : FuncData} (F : Fun K "_law_order_of" "_law_order_of" s_order_of f fd) (B : NM mg) (G_take : FnAt P w K mg base CX0 2 "_law_take" fT fdT ["_law_state_here", "_law_m"] [] spTake) : FnOk P w K mg base CX0 4 f fd ["_law_state_here", "_law_n"] spOrder := by
  refine F.ok sc_order_of (fun vs H Q E h => ?_) (fun cdv A outer s H vs Q E hr h => ?_)
  · obtain ⟨a, ns, rfl, _⟩ := h
    rfl
  · obtain ⟨st, n, rfl, hst, n0, n16, q⟩ := h
    refine ⟨_, (pss_cons (ps_set (i := 2) sc_order_of.nd rfl (Or.inl rfl) (pe_listRg rfl rfl B.list (prg_1 rfl B.range (pv 1))))
  (pss_cons (ps_set (i := 3) sc_order_of.nd rfl (Or.inl rfl) (pe_lst pa_nil))
  (pss_cons (ps_for PassesOwn.never rfl (pi_range1 rfl B.range (pa_cons (pv 1) pa_nil)) (pg_name (i := 4) sc_order_of.nd rfl (Or.inl rfl))
  (pss_one (ps_expr (pe_bm PySem.F.plainAttrs_list PySem.F.slot_list_append PySem.F.type_list_append mt_append (pv 3) (pa_cons (pe_bm PySem.F.plainAttrs_list PySem.F.slot_list_pop PySem.F.type_list_pop mt_popAt (pv 2) (pa_cons (pe_call G_take.ok (hr.mono (by decide)) rfl G_take.mgf G_take.kp G_take.b .nil pass0 (pa_cons (pv 0) (pa_cons (pe_callB call_len_seq (by rfl) B.len (by decide +kernel) (pa_cons (pv 2) pa_nil)) pa_nil))) pa_nil)) pa_nil)))))
  (pss_one (ps_ret (pv 3)))))), ?_⟩
    refine ⟨_, rfl, _, rfl, RgOk.of_le (by omega) (by omega) (by omega) (by omega), fun l hl => ?_⟩
    refine ⟨Nat.zero_le _, fun g hg => ?_⟩
    have lst : l ≠ st := hst.ne hl
    have gl : g ≠ l := (ne_of_none upd_same hg).symm
    have hg0 : H g = none := (upd_ne (H := H) gl).symm.trans hg
    have gst : g ≠ st := hst.ne hg0
    have e0 : rgV 0 (n : Int) = ((List.range n).map fun (i : Nat) => (i : Int)).map V.int := by
      unfold rgV
      rw [List.map_map]
      have : ((n : Int) - 0).toNat = n := by omega
      rw [this]
      exact List.map_congr_left fun i _ => by show V.int (0 + (i : Int)) = V.int (i : Int); rw [Int.zero_add]
    refine ⟨_, rfl, (n : Int), rfl, by omega, by omega, for_range (lo := 0) (n := (n : Int).toNat) (fun i σ H' => ∃ (L F : List Int) (v : Option V), σ = [some (.ref st), some (.int (n : Int)), some (.ref l), some (.ref g), v] ∧ SE st H H' ∧
      H' l = some (.lst (L.map V.int)) ∧ H' g = some (.lst (F.map V.int)) ∧ F.length = i ∧ L.length = n - i ∧ (F ++ L).Nodup ∧ ∀ x ∈ F ++ L, 0 ≤ x ∧ x < (n : Int))
      ⟨(List.range n).map fun (i : Nat) => (i : Int), [], none, rfl, ((SE.refl hst).upd hl lst).upd hg0 gst, ?_, upd_same, rfl, ?_, ?_, ?_⟩ ?_ ?_⟩
    · rw [upd_ne gl.symm, upd_same, e0]
    · simp
    · rw [List.nil_append]
      exact List.pairwise_map.mpr (List.nodup_range.imp fun h e => h (by exact_mod_cast e))
    · intro x hx
      rw [List.nil_append] at hx
      obtain ⟨i, hi, rfl⟩ := List.mem_map.mp hx
      have := List.mem_range.mp hi
      omega
    · rintro i σ H' hi ⟨L, F, v, rfl, s1, h1, h2, e1, e2, nd, rg⟩
      have hLpos : 0 < L.length := by omega
      refine ⟨_, rfl, .inl ⟨rfl, _, SqL.of h2⟩, _, rfl, .inl ⟨rfl, _, SqL.of h1⟩, _, rfl, _, rfl, _, _, rfl, .inl (SqL.of h1), ?_⟩
      refine ⟨st, _, rfl, s1.2, by rw [List.length_map]; omega, by rw [List.length_map]; omega, fun y H2 y0 y1 s2 => ?_⟩
      rw [List.length_map] at y1
      have k1 := s2.1 _ _ lst h1
      have k2 := s2.1 _ _ gst h2
      have hy : y.toNat < L.length := by omega
      refine ⟨l, L.map V.int, y, y.toNat, V.int (L[y.toNat]), rfl, rfl, k1, by omega, by omega, seqIndex_of y0 (by rw [List.length_map]; omega), by simp [hy], ?_⟩
      refine ⟨g, F.map V.int, _, rfl, rfl, by rw [upd_ne gl]; exact k2, by rw [List.length_map]; exact Nat.lt_of_lt_of_le (show F.length < 17 by omega) (by decide), ?_⟩
      have pp := perm_pop F L (List.getElem?_eq_getElem hy)
      refine ⟨L.eraseIdx y.toNat, F ++ [L[y.toNat]], _, rfl, ((s1.trans s2).upd hl lst).upd hg0 gst, ?_, ?_, ?_, ?_, ?_, ?_⟩
      · rw [upd_ne gl.symm, upd_same, erase_map]
      · rw [upd_same, List.map_append]; rfl
      · rw [List.length_append, e1]; rfl
      · rw [List.length_eraseIdx_of_lt hy]; omega
      · exact pp.nodup_iff.mpr nd
      · intro x hx
        exact rg x (pp.mem_iff.mp hx)
    · rintro σ H' ⟨L, F, v, rfl, s1, h1, h2, e1, e2, nd, rg⟩
      refine ⟨_, rfl, q g F H' s1 hg0 gst h2 (by omega) ?_ fun x hx => rg x (List.mem_append_left _ hx)⟩
      exact (List.nodup_append.mp nd).1
end
end KW
end

section
set_option Elab.async false
set_option linter.all false
set_option maxRecDepth 100000
set_option maxHeartbeats 4000000
set_option exponentiation.threshold 100000
namespace KW
open PySem PySem.Spec PyProof.Rows L2 K38
section
variable {P : Program} {w : World} {K : PySem.W.Frag} {mg : Str → Option Value} {base : Heap} {C : Addr}
abbrev s_factor : Stmt := top 41
abbrev N_factor : List Str := ["_law_state_here"]
theorem sc_factor : FnScope N_factor ["_law_state_here"] (defScope s_factor) := ⟨rfl, rfl, rfl, by decide +kernel, rfl, by decide +kernel, by decide +kernel⟩
theorem ok_factor {f fT : Addr} {fd fdT : FuncData} (F : Fun K "_law_factor" "_law_factor" s_factor f fd) (G_take : FnAt P w K mg base CX0 2 "_law_take" fT fdT ["_law_state_here", "_law_m"] [] spTake) : FnOk P w K mg base CX0 4 f fd ["_law_state_here"] spFactor := by
  refine F.ok sc_factor (fun vs H Q E h => ?_) (fun cdv A outer s H vs Q E hr h => ?_)
  · obtain ⟨a, rfl, _⟩ := h
    rfl
  · obtain ⟨st, rfl, hst, q⟩ := h
    refine ⟨_, (pss_one (ps_ret (pe_tup (pa_cons (pe_op op_add pe_int (pe_call G_take.ok (hr.mono (by decide)) rfl G_take.mgf G_take.kp G_take.b .nil pass0 (pa_cons (pv 0) (pa_cons pe_int pa_nil)))) (pa_cons (pe_op op_add pe_int (pe_call G_take.ok (hr.mono (by decide)) rfl G_take.mgf G_take.kp G_take.b .nil pass0 (pa_cons (pv 0) (pa_cons pe_int pa_nil)))) pa_nil))))), ?_⟩
    refine ⟨_, rfl, st, _, rfl, hst, by decide, by decide, fun a H1 a0 a1 s1 => ⟨_, _, rfl, rfl, ?_⟩⟩
    refine ⟨_, rfl, st, _, rfl, s1.2, by decide, by decide, fun b H2 b0 b1 s2 => ⟨_, _, rfl, rfl, ?_⟩⟩
    refine ⟨(by show 2 ≤ sizeLine; decide), fun p hp => ?_⟩
    exact q p _ _ _ ((s1.trans s2).same (Same.upd hp)) (by omega) (by omega) (by omega) (by omega) upd_same
abbrev s_is : Stmt := top 43
abbrev N_is : List Str := ["_law_told", "_law_due"]
theorem sc_is : FnScope N_is ["_law_told", "_law_due"] (defScope s_is) := ⟨rfl, rfl, rfl, by decide +kernel, rfl, by decide +kernel, by decide +kernel⟩
theorem ok_is {f : Addr} {fd : FuncData} (F : Fun K "_law_is" "_law_is" s_is f fd) (B : NM mg) : FnOk P w K mg base CX0 2 f fd ["_law_told", "_law_due"] spIs := by
  refine F.ok sc_is (fun vs H Q E h => ?_) (fun cdv A outer s H vs Q E hr h => ?_)
  · obtain ⟨a, b, rfl, _⟩ := h
    rfl
  · obtain ⟨a, b, rfl, q⟩ := h
    refine ⟨_, (pss_one (ps_ret (pe_and (pe_callB call_isi (by rfl) B.isinstance (by decide +kernel) (pa_cons (pv 0) (pa_cons (pe_bltn (v := .ty "bool") (u := .type "bool") (by rfl) B.bool (by decide +kernel) rfl) pa_nil))) (pe_one (pe_cmpR op_eq (pv 0) (pv 1) (nomark _)))))), ?_⟩
    refine ⟨_, rfl, _, _, _, _, true, rfl, .ty "bool", .base (.bl a), kit_ty (by decide +kernel), _, rfl, iteT ?_⟩
    refine ⟨_, rfl, _, rfl, rfl, ?_⟩
    have e : decide (V.bl a = V.bl b) = (a == b) := by cases a <;> cases b <;> rfl
    show Q (.bl (decide (V.bl a = V.bl b))) H
    rw [e]
    exact q
abbrev s_root : Stmt := top 49
abbrev N_root : List Str := ["_law_value", "_law_root_here"]
theorem sc_root : FnScope N_root ["_law_value"] (defScope s_root) := ⟨rfl, rfl, rfl, by decide +kernel, rfl, by decide +kernel, by decide +kernel⟩
theorem self_le {r v : Int} (h0 : 0 ≤ r) (h : r * r < v) : r < v := by
  rcases (show r = 0 ∨ 1 ≤ r by omega) with h1 | h1
  · rw [h1] at h ⊢
    omega
  · have := Int.mul_le_mul_of_nonneg_left h1 h0
    omega
theorem ok_root {f : Addr} {fd : FuncData} (F : Fun K "_law_root" "_law_root" s_root f fd) : FnOk P w K mg base CX0 2 f fd ["_law_value"] spRoot := by
  refine F.ok sc_root (fun vs H Q E h => ?_) (fun cdv A outer s H vs Q E hr h => ?_)
  · obtain ⟨a, rfl, _⟩ := h
    rfl
  · obtain ⟨v, rfl, v0, v1, q⟩ := h
    refine ⟨_, (pss_cons (ps_set (i := 1) sc_root.nd rfl (Or.inl rfl) pe_int)
  (pss_cons (ps_while PassesOwn.never (pt_cmpR op_lt (pe_op op_mul (pv 1) (pv 1)) (pv 0) (nomark _)) (pss_one (ps_set (i := 1) sc_root.nd rfl (Or.inl rfl) (pe_op op_add (pv 1) pe_int))))
  (pss_one (ps_ret (pe_ifExp (pt_cmpR op_eq (pe_op op_mul (pv 1) (pv 1)) (pv 0) (nomark _)) (pv 1) (pe_un un_neg pe_int)))))), ?_⟩
    refine while_by (fun σ H' => ∃ r : Int, σ = [some (.int v), some (.int r)] ∧ 0 ≤ r ∧ r ≤ v ∧ Same H H') (fun σ H' => match σ with | [_, some (.int r)] => (v - r).toNat | _ => 0) ⟨0, rfl, by decide, v0, Same.refl H⟩ ?_ ?_
    · rintro σ H' ⟨r, rfl, r0, r1, s1⟩
      refine ⟨_, rfl, _, rfl, _, _, rfl, rfl, .inl ⟨by omega, by omega⟩, _, rfl, _, _, rfl, rfl, _, rfl, ?_⟩
      refine bin2 (fun hlt => ?_) fun hge => ?_
      · refine ⟨_, rfl, _, _, rfl, rfl, ?_⟩
        have hv := self_le r0 hlt
        refine ⟨⟨r + 1, rfl, by omega, by omega, s1⟩, ?_⟩
        show (v - (r + 1)).toNat < (v - r).toNat
        omega
      · refine ⟨_, rfl, _, rfl, _, _, rfl, rfl, .inl ⟨by omega, by omega⟩, _, rfl, rfl, _, rfl, ?_⟩
        refine bin2 (fun he => ?_) fun hne => ?_
        · refine ⟨_, rfl, q r H' s1 (.inl ⟨r0, by injection he⟩)⟩
        · exact ⟨_, rfl, q (-1) H' s1 (.inr rfl)⟩
    · rintro σ H' Q1 Q2 i ⟨x, h1, y, h2, a, b, h3, h4, h5, z, h6, c, d, h7, h8, e, h9, h10⟩
      exact ⟨x, h1, y, h2, a, b, h3, h4, h5, z, h6, c, d, h7, h8, e, h9, i _ _ h10⟩
end
end KW
end

section
set_option Elab.async false
set_option linter.all false
set_option maxRecDepth 100000
set_option maxHeartbeats 4000000
set_option exponentiation.threshold 100000
namespace KW
open PySem PySem.Spec PyProof.Rows L2 K38
section
variable {P : Program} {w : World} {K : PySem.W.Frag} {mg : Str → Option Value} {base : Heap} {C : Addr}
abbrev s_sum : Stmt := top 52
abbrev N_sum : List Str := ["_law_numbers", "_law_total", "_law_number"]
theorem sc_sum : FnScope N_sum ["_law_numbers"] (defScope s_sum) := ⟨rfl, rfl, rfl, by decide +kernel, rfl, by decide +kernel, by decide +kernel⟩
theorem sumQ_sz {f : Nat → Rat} {n : Nat} (h : ∀ i, i < n → Sz 1600 1600 (f i)) : ∀ i, i ≤ n → Sz (1601 * i + 1) (1600 * i + 1) (sumQ f i)
  | 0, _ => sz_zero
  | i + 1, hi => by
    have ih := sumQ_sz h i (by omega)
    exact (sz_add (e := 1601 * (i + 1) + 1) ih (h i hi) (by omega) (by omega)).mono (Nat.le_refl _) (by omega)
theorem ok_sum {f : Addr} {fd : FuncData} (F : Fun K "_law_sum" "_law_sum" s_sum f fd) (T : RO P w K mg base C) : FnOk P w K mg base CX0 8 f fd ["_law_numbers"] (spSum C) := by
  refine F.ok sc_sum (fun vs H Q E h => ?_) (fun cdv A outer s H vs Q E hr h => ?_)
  · obtain ⟨v, n, g, rfl, _⟩ := h
    rfl
  · obtain ⟨v, n, g, rfl, hL, n4, sz, q⟩ := h
    refine ⟨_, (pss_cons (ps_set (i := 1) sc_sum.nd rfl (Or.inl rfl) (T.pe_mk1 hr (pa_cons pe_int pa_nil)))
  (pss_cons (ps_for PassesOwn.never rfl (pi_list (pv 0)) (pg_name (i := 2) sc_sum.nd rfl (Or.inl rfl))
  (pss_one (ps_set (i := 1) sc_sum.nd rfl (Or.inl rfl) (pe_op (T.opAdd hr) (pv 1) (pv 2)))))
  (pss_one (ps_ret (pv 1))))), ?_⟩
    refine ⟨_, rfl, fun v0 H1 s1 r0 => ?_⟩
    obtain ⟨p, us, rfl, hp, ar⟩ := hL.same RQ.rnl.rs s1
    refine ⟨_, rfl, p, rfl, ⟨_, SqL.of hp⟩, for_list (K := K) (a := p) (xs := us) (fun i σ H' => ∃ (x : V) (v : Option V), σ = [some (.ref p), some x, v] ∧ Same H1 H' ∧ IsR C (sumQ g i) x H')
      ⟨v0, none, rfl, Same.refl _, r0⟩ (fun i σ H' _ ⟨_, _, _, s2, _⟩ => SqL.of (s2 _ _ hp)) ?_ ?_⟩
    · rintro i y σ H' hi ⟨x, v, rfl, s2, r⟩
      have hin := ar.lt hi
      have ry : IsR C (g i) y H' := IsR.nl (NL.of s2) (ar.2 i y hi)
      refine ⟨_, rfl, _, rfl, _, _, r, ry, bigR_of (sumQ_sz sz i (by omega)) (sz i hin) (by omega) (by decide) (by omega), fun z H2 s3 r2 => ?_⟩
      exact ⟨z, some y, rfl, s2.trans s3, r2⟩
    · rintro σ H' ⟨x, v, rfl, s2, r⟩
      rw [ar.1] at r
      exact ⟨_, rfl, q x H' (s1.trans s2) r⟩
abbrev s_parts : Stmt := top 45
abbrev N_parts : List Str := ["_law_n", "_law_found", "_law_x", "_law_row"]
theorem sc_parts : FnScope N_parts ["_law_n"] (defScope s_parts) := ⟨rfl, rfl, rfl, by decide +kernel, rfl, by decide +kernel, by decide +kernel⟩
theorem rowN_snoc (S : List Nat) (n : Nat) : rowI S.length (fun j => ((S.getD j 0 : Nat) : Int)) ++ [V.int (n : Int)] = rowI (S ++ [n]).length (fun j => (((S ++ [n]).getD j 0 : Nat) : Int)) := by
  have e : ∀ L : List Nat, rowI L.length (fun j => ((L.getD j 0 : Nat) : Int)) = L.map fun x : Nat => V.int (x : Int) := fun L => by
    refine List.ext_getElem? fun i => ?_
    rcases Nat.lt_or_ge i L.length with l | l
    · rw [rowI_get l]; simp [List.getD, l]
    · rw [List.getElem?_eq_none (by rw [rowI_len]; exact l), List.getElem?_eq_none (by rw [List.length_map]; exact l)]
  rw [e, e, List.map_append]
  rfl
theorem parts_16 {n : Nat} (h : n ≤ 4) : (parts n).length ≤ 16 := by
  rw [parts_len]
  exact Nat.pow_le_pow_right (by decide) h
theorem ok_parts {f : Addr} {fd : FuncData} (F : Fun K "_law_parts" "_law_parts" s_parts f fd) (B : NM mg) : FnOk P w K mg base CX0 2 f fd ["_law_n"] spParts := by
  refine F.ok sc_parts (fun vs H Q E h => ?_) (fun cdv A outer s H vs Q E hr h => ?_)
  · obtain ⟨v, rfl, _⟩ := h
    rfl
  · obtain ⟨n, rfl, n4, q⟩ := h
    refine ⟨_, (pss_cons (ps_set (i := 1) sc_parts.nd rfl (Or.inl rfl) (pe_lst (pa_cons (pe_tup pa_nil) pa_nil)))
  (pss_cons (ps_for PassesOwn.never rfl (pi_range1 rfl B.range (pa_cons (pv 0) pa_nil)) (pg_name (i := 2) sc_parts.nd rfl (Or.inr rfl))
  (pss_one (ps_set (i := 1) sc_parts.nd rfl (Or.inl rfl) (pe_op op_cat (pv 1) (lcG (pe_lc (own := [("_law_row", 3)]) (g := gName 3) rfl sc_parts.nd (pi_list (pv 1)) (blkOk_by (own := [("_law_row", 3)]) (N := N_parts) (sc := defScope s_parts) (by decide +kernel)) (fun _ _ _ _ _ => (pg_name (i := 3) sc_parts.nd rfl (Or.inl rfl))) (fun _ _ _ _ _ => pts_nil) (fun _ _ _ _ _ => (pe_op (op_catAK K rfl) (pv 3) (pe_tup (pa_cons (pv 2) pa_nil))))))))))
  (pss_one (ps_ret (pv 1))))), ?_⟩
    refine ⟨Nat.zero_le _, fun t ht => ?_⟩
    refine ⟨(by show 1 ≤ sizeLine; decide), fun l hl => ?_⟩
    have tl : t ≠ l := ne_of_none upd_same hl
    refine ⟨_, rfl, (n : Int), rfl, by omega, by omega, for_range (lo := 0) (n := (n : Int).toNat) (fun i σ H' => ∃ (y : V) (v : Option V) , σ = [some (.int (n : Int)), some y, v, none] ∧ Same H H' ∧ LstA (RP (parts i)) (parts i).length y H')
      ⟨.ref l, none, rfl, (Same.upd ht).trans (Same.upd hl), l, [.ref t], rfl, upd_same, ?_⟩ ?_ ?_⟩
    · refine ⟨rfl, fun i v e => ?_⟩
      have hi : i = 0 := by
        have := (List.getElem?_eq_some_iff.mp e).1
        simp at this; omega
      subst hi
      have e2 : V.ref t = v := by simpa using e
      subst e2
      exact ⟨[], rfl, t, [], rfl, by rw [upd_ne tl, upd_same], Arr.nil⟩
    · rintro i σ H' hi ⟨y, v, rfl, s1, L⟩
      obtain ⟨p, vs, rfl, hp, ar, src⟩ := L.src (K := K)
      have p16 := parts_16 (n := i) (by omega)
      refine ⟨_, rfl, _, rfl, p, rfl, ⟨_, SqL.of hp⟩, ?_⟩
      refine lcN src (by omega) (R := RP ((parts i).map (· ++ [i]))) RP.rnl (by exact fun _ => rfl) ?_ ?_
      · intro k Hk hk sk Qk hq
        obtain ⟨_, S, eS, t, us, et, ht', arS⟩ := (ar.same RP.rnl.rs sk).item hk
        have eu := arr_rowI arS
        subst eu
        refine ⟨_, rfl, _, rfl, (by show 1 ≤ sizeLine; decide), fun z hz => ?_⟩
        have key : ∀ a H2, Same Hk H2 → H2 a = some (.tup (rowI S.length (fun j => ((S.getD j 0 : Nat) : Int)) ++ [V.int ((0 : Int) + (i : Int))])) → Qk (.ref a) H2 := fun a H2 s2 h2 => by
          rw [Int.zero_add, rowN_snoc] at h2
          refine hq _ _ s2 ⟨S ++ [i], by rw [List.getElem?_map, eS]; rfl, a, _, rfl, h2, rowI_arr⟩
        have tz : t ≠ z := ne_of_none ht' hz
        refine ⟨t, z, _, _, et, rfl, SqT.of (by rw [upd_ne tz]; exact ht'), SqT.of upd_same, ?_, fun e => ?_, (fun _ e => by cases e), fun _ _ a ha => ?_⟩
        · rw [rowI_len]
          have : S.length ≤ 4 := by
            have := (parts_ok i S (List.mem_of_getElem? eS)).1
            omega
          exact Nat.le_trans (Nat.add_le_add_right this _) (by show 4 + 1 ≤ sizeLine; decide)
        · refine key z _ (Same.upd hz) ?_
          rw [upd_same, e]
          all_goals rfl
        · exact key a _ ((Same.upd hz).trans (Same.upd ha)) upd_same
      · intro D H2 us s2 hD0 hD ar2
        have hp2 := s2 _ _ hp
        refine ⟨p, D, vs, us, rfl, rfl, hp2, hD, ?_, fun g hg => ?_⟩
        · rw [ar.1, ar2.1]
          exact Nat.le_trans (Nat.add_le_add p16 p16) (by decide)
        · refine ⟨.ref g, _, rfl, (s1.trans s2).trans (Same.upd hg), g, vs ++ us, rfl, upd_same, ?_⟩
          have sg : Same H2 (upd H2 g (.lst (vs ++ us))) := Same.upd hg
          have ap := Arr.app (R := RP (parts (i + 1))) ((ar.same RP.rnl.rs s2).same RP.rnl.rs sg) (ar2.same RP.rnl.rs sg)
            (fun j v hj ⟨S, e, h⟩ => ⟨S, by show (parts i ++ (parts i).map (· ++ [i]))[j]? = _; rw [List.getElem?_append_left hj]; exact e, h⟩)
            (fun j v hj ⟨S, e, h⟩ => ⟨S, by show (parts i ++ (parts i).map (· ++ [i]))[(parts i).length + j]? = _; rw [List.getElem?_append_right (by omega), Nat.add_sub_cancel_left]; exact e, h⟩)
          have el : (parts (i + 1)).length = (parts i).length + (parts i).length := by
            show (parts i ++ (parts i).map (· ++ [i])).length = _
            rw [List.length_append, List.length_map]
          rw [el]
          exact ap
    · rintro σ H' ⟨y, v, rfl, s1, L⟩
      have en : (n : Int).toNat = n := by omega
      rw [en] at L
      exact ⟨_, rfl, q y H' s1 L⟩
end
end KW
end

section
set_option Elab.async false
set_option linter.all false
set_option maxRecDepth 100000
set_option maxHeartbeats 4000000
set_option exponentiation.threshold 100000
namespace KW
open PySem PySem.Spec PyProof.Rows L2 K38
section
variable {P : Program} {w : World} {K : PySem.W.Frag} {mg : Str → Option Value} {base : Heap} {C : Addr}
abbrev s_twice_gram : Stmt := top 46
abbrev N_twice_gram : List Str := ["_law_rows_here", "_law_n", "_law_i", "_law_j"]
theorem sc_twice_gram : FnScope N_twice_gram ["_law_rows_here"] (defScope s_twice_gram) := ⟨rfl, rfl, rfl, by decide +kernel, rfl, by decide +kernel, by decide +kernel⟩
theorem ok_twice {f : Addr} {fd : FuncData} (F : Fun K "_law_twice_gram" "_law_twice_gram" s_twice_gram f fd) (B : NM mg) : FnOk P w K mg base CX0 2 f fd ["_law_rows_here"] spTwice := by
  refine F.ok sc_twice_gram (fun vs H Q E h => ?_) (fun cdv A outer s H vs Q E hr h => ?_)
  · obtain ⟨v, n, D, rfl, _⟩ := h
    rfl
  · obtain ⟨v, n, D, rfl, hD, n7, big, q⟩ := h
    refine ⟨_, (pss_cons (ps_set (i := 1) sc_twice_gram.nd rfl (Or.inr rfl) (pe_callB call_len_seq (by rfl) B.len (by decide +kernel) (pa_cons (pv 0) pa_nil)))
  (pss_one (ps_ret (lcG (pe_lc (own := [("_law_i", 2)]) (g := gName 2) rfl sc_twice_gram.nd (pi_range2 rfl B.range (pa_cons pe_int (pa_cons (pv 1) pa_nil))) (blkOk_by (own := [("_law_i", 2)]) (N := N_twice_gram) (sc := defScope s_twice_gram) (by decide +kernel)) (fun _ _ _ _ _ => (pg_name (i := 2) sc_twice_gram.nd rfl (Or.inr rfl))) (fun _ _ _ _ _ => pts_nil) (fun _ _ _ _ _ => (lcG (pe_lc (own := [("_law_j", 3)]) (g := gName 3) rfl sc_twice_gram.nd (pi_range2 rfl B.range (pa_cons pe_int (pa_cons (pv 1) pa_nil))) (blk_in (own := [("_law_j", 3)]) (N := N_twice_gram) (sc0 := defScope s_twice_gram) rfl (by decide +kernel)) (fun _ _ _ _ _ => (pg_name (i := 3) sc_twice_gram.nd rfl (Or.inl rfl))) (fun _ _ _ _ _ => pts_nil) (fun _ _ _ _ _ => (pe_op op_sub (pe_op op_add (pe_op op_pow (pe_ix (ix_seqK K rfl) (pe_ix (ix_listK K rfl) (pv 0) pe_int (fun _ _ => rfl)) (pv 2) (fun _ _ => rfl)) pe_int) (pe_op op_pow (pe_ix (ix_seqK K rfl) (pe_ix (ix_listK K rfl) (pv 0) pe_int (fun _ _ => rfl)) (pv 3) (fun _ _ => rfl)) pe_int)) (pe_op op_pow (pe_ix (ix_seqK K rfl) (pe_ix (ix_listK K rfl) (pv 0) (pv 2) (fun _ _ => rfl)) (pv 3) (fun _ _ => rfl)) pe_int))))))))))), ?_⟩
    obtain ⟨p, vs, rfl, hp, hl, row⟩ := hD.row
    refine ⟨_, rfl, p, _, rfl, .inl (SqL.of hp), ?_⟩
    refine ⟨_, rfl, _, _, rfl, ⟨by decide, by decide, by omega, by omega⟩, ?_⟩
    have en : ((vs.length : Int) - 1).toNat = n := by omega
    rw [en]
    refine lcL src_range (by omega) (R := fun i => RI (Tw D i)) (m := fun _ => n) (fun i => RI.rnl) (by exact fun _ => rfl) ?_ ?_
    · intro i H1 hi s1 Qk hq
      refine ⟨_, rfl, _, _, rfl, ⟨by decide, by decide, by omega, by omega⟩, ?_⟩
      rw [en]
      refine lcN src_range (by omega) (R := RI (Tw D i)) RI.rnl (by exact fun _ => rfl) ?_ ?_
      · intro j H2 hj s2 Qk2 hq2
        have hp2 := s2 _ _ (s1 _ _ hp)
        have at0 : ∀ k, k < n + 1 → ∃ q, atI vs (k : Int) = some (.ref q) ∧ (H2 q = some (.lst (rowI (n + 1) (D k))) ∨ H2 q = some (.tup (rowI (n + 1) (D k)))) := fun k hk => by
          obtain ⟨q, e, h⟩ := row k hk
          exact ⟨q, atI_nat e, h.elim (fun h => .inl (s2 _ _ (s1 _ _ h))) fun h => .inr (s2 _ _ (s1 _ _ h))⟩
        obtain ⟨q0, a0, h0⟩ := at0 0 (by omega)
        obtain ⟨qi, ai, hqi⟩ := at0 (i + 1) (by omega)
        have ei : (1 : Int) + (i : Int) = ((i + 1 : Nat) : Int) := by omega
        have ej : (1 : Int) + (j : Int) = ((j + 1 : Nat) : Int) := by omega
        have bg : ∀ a b, a < n + 1 → b < n + 1 → (0 : Int) ≤ 2 ∧ (2 : Int) ≤ 1000000 ∧ (D a b).natAbs < 2 ^ 64 := fun a b ha hb => ⟨by decide, by decide, Nat.lt_trans (big a b ha hb) (by decide)⟩
        refine ⟨_, rfl, p, vs, _, _, rfl, rfl, SqL.of hp2, a0, _, rfl, ?_⟩
        rw [ei]
        refine ixE h0 (row_at (by omega)) ⟨_, _, rfl, rfl, bg 0 (i + 1) (by omega) (by omega), ?_⟩
        refine ⟨_, rfl, p, vs, _, _, rfl, rfl, SqL.of hp2, a0, _, rfl, ?_⟩
        rw [ej]
        refine ixE h0 (row_at (by omega)) ⟨_, _, rfl, rfl, bg 0 (j + 1) (by omega) (by omega), ?_⟩
        refine ⟨_, _, rfl, rfl, ?_⟩
        refine ⟨_, rfl, _, rfl, p, vs, _, _, rfl, rfl, SqL.of hp2, ai, _, rfl, ?_⟩
        refine ixE hqi (row_at (by omega)) ⟨_, _, rfl, rfl, bg (i + 1) (j + 1) (by omega) (by omega), ?_⟩
        refine ⟨_, _, rfl, rfl, ?_⟩
        exact hq2 _ _ (Same.refl _) rfl
      · intro D1 H2 ys s2 hD0 hD1 ar
        exact hq D1 ys H2 s2 hD0 hD1 ar
    · intro D1 H2 ps s2 hD0 hD1 hl1 _ _ nl
      refine q _ _ s2 ⟨D1, ps.map V.ref, rfl, hD1, by rw [List.length_map]; exact hl1, fun i v e => ?_⟩
      rw [List.getElem?_map] at e
      obtain ⟨a, ea, rfl⟩ := Option.map_eq_some_iff.mp e
      obtain ⟨us, h1, h2⟩ := nl.2 i a ea
      exact ⟨a, us, rfl, h1, h2⟩
end
end KW
end

section
set_option Elab.async false
set_option linter.all false
set_option maxRecDepth 100000
set_option maxHeartbeats 4000000
set_option exponentiation.threshold 100000
namespace KW
open PySem PySem.Spec PyProof.Rows L2 K38
section
variable {P : Program} {w : World} {K : PySem.W.Frag} {mg : Str → Option Value} {base : Heap} {C : Addr}
abbrev s_determinant : Stmt := top 44
abbrev N_determinant : List Str := ["_law_rows_here", "_law_n", "_law_total", "_law_j", "_law_minor", "_law_row"]
theorem sc_determinant : FnScope N_determinant ["_law_rows_here"] (defScope s_determinant) := ⟨rfl, rfl, rfl, by decide +kernel, rfl, by decide +kernel, by decide +kernel⟩
theorem minor_row (m j : Nat) (f : Nat → Int) (hj : j ≤ m) : (rowI (m + 1) f).take j ++ (rowI (m + 1) f).drop (j + 1) = rowI m (fun b => f (if b < j then b else b + 1)) := by
  refine List.ext_getElem? fun i => ?_
  have lt : ((rowI (m + 1) f).take j).length = j := by rw [List.length_take, rowI_len]; omega
  rcases Nat.lt_or_ge i m with l | l
  · rw [rowI_get l]
    rcases Nat.lt_or_ge i j with l2 | l2
    · rw [List.getElem?_append_left (by omega), List.getElem?_take_of_lt l2, rowI_get (by omega), if_pos l2]
    · rw [List.getElem?_append_right (by omega), lt, List.getElem?_drop, rowI_get (by omega), if_neg (by omega)]
      have e : j + 1 + (i - j) = i + 1 := by omega
      rw [e]
  · rw [List.getElem?_eq_none (by rw [List.length_append, lt, List.length_drop, rowI_len]; omega), List.getElem?_eq_none (by rw [rowI_len]; exact l)]
theorem ok_det {f : Addr} {fd : FuncData} (F : Fun K "_law_determinant" "_law_determinant" s_determinant f fd) (B : NM mg) (mgf : mg "_law_determinant" = some (.ref f)) (b : Binds K fd ["_law_rows_here"] []) : ∀ n : Nat, n ≤ 8 → FnOk P w K mg base CX0 (2 * n + 2) f fd ["_law_rows_here"] (spDet n)
  | 0, _ => by
    refine F.ok sc_determinant (fun vs H Q E h => ?_) (fun cdv A outer s H vs Q E hr h => ?_)
    · obtain ⟨v, k, M, rfl, _⟩ := h
      rfl
    · obtain ⟨v, k, M, rfl, hM, k0, big, q⟩ := h
      have ek : k = 0 := by omega
      subst ek
      refine ⟨_, (pss_cons (ps_set (i := 1) sc_determinant.nd rfl (Or.inl rfl) (pe_callB call_len_seq (by rfl) B.len (by decide +kernel) (pa_cons (pv 0) pa_nil)))
        (pss_cons (ps_if (pt_cmpR op_eq (pv 1) pe_int (nomark _)) (pss_one (ps_ret pe_int)) pss_nil) pss_never)), ?_⟩
      obtain ⟨p, vs, rfl, hp, hl, row⟩ := hM.row
      refine ⟨_, rfl, p, _, rfl, .inl (SqL.of hp), ?_⟩
      refine ⟨_, rfl, rfl, _, rfl, decT (by rw [hl]; rfl) ?_⟩
      exact q H (Same.refl H)
  | n + 1, hn8 => by
    have G_determinant : FnAt P w K mg base CX0 (2 * n + 2) "_law_determinant" f fd ["_law_rows_here"] [] (spDet n) := ⟨mgf, F.kp, b, ok_det F B mgf b n (by omega)⟩
    refine F.ok sc_determinant (fun vs H Q E h => ?_) (fun cdv A outer s H vs Q E hr h => ?_)
    · obtain ⟨v, k, M, rfl, _⟩ := h
      rfl
    · obtain ⟨v, k, M, rfl, hM, kn, big, q⟩ := h
      have hr2 : Room (2 * n + 2) _ := hr.mono (by omega)
      refine ⟨_, (pss_cons (ps_set (i := 1) sc_determinant.nd rfl (Or.inl rfl) (pe_callB call_len_seq (by rfl) B.len (by decide +kernel) (pa_cons (pv 0) pa_nil)))
  (pss_cons (ps_if (pt_cmpR op_eq (pv 1) pe_int (nomark _)) (pss_one (ps_ret pe_int)) pss_nil)
  (pss_cons (ps_set (i := 2) sc_determinant.nd rfl (Or.inl rfl) pe_int)
  (pss_cons (ps_for PassesOwn.never rfl (pi_range1 rfl B.range (pa_cons (pv 1) pa_nil)) (pg_name (i := 3) sc_determinant.nd rfl (Or.inr rfl))
  (pss_cons (slcG (ps_setLc (i := 4) (own := [("_law_row", 5)]) (g := gName 5) rfl sc_determinant.nd rfl rfl (sw_true rfl rfl rfl (by decide +kernel)) (pi_list (pe_slice sl_list (pv 0) (po_some pe_int) po_none)) (blkOk_by (own := [("_law_row", 5)]) (N := N_determinant) (sc := defScope s_determinant) (by decide +kernel)) (fun _ _ _ _ _ => (pg_name (i := 5) sc_determinant.nd rfl (Or.inl rfl))) (fun _ _ _ _ _ => pts_nil) (fun _ _ _ _ _ => (pe_op op_cat (pe_slice (sl_listK K rfl) (pv 5) po_none (po_some (pv 3))) (pe_slice (sl_listK K rfl) (pv 5) (po_some (pe_op op_add (pv 3) pe_int)) po_none)))))
  (pss_one (ps_set (i := 2) sc_determinant.nd rfl (Or.inl rfl) (pe_op op_add (pv 2) (pe_op op_mul (pe_op op_mul (pe_op op_sub pe_int (pe_op op_mul pe_int (pe_op op_mod (pe_callTy call_int1 (by rfl) B.int (by decide +kernel) (pa_cons (pv 3) pa_nil)) pe_int))) (pe_ix ix_list (pe_ix ix_list (pv 0) pe_int (fun _ _ => rfl)) (pv 3) (fun _ _ => rfl))) (pe_call G_determinant.ok hr2 rfl G_determinant.mgf G_determinant.kp G_determinant.b .nil pass0 (pa_cons (pv 4) pa_nil))))))))
  (pss_one (ps_ret (pv 2))))))), ?_⟩
      obtain ⟨p, vs, rfl, hp, hl, row⟩ := hM.row
      refine ⟨_, rfl, p, _, rfl, .inl (SqL.of hp), ?_⟩
      refine ⟨_, rfl, rfl, _, rfl, bin2 (fun h0 => ?_) fun h0 => ?_⟩
      · have e0 : k = 0 := by
          injection h0 with h0
          omega
        subst e0
        exact q H (Same.refl H)
      · obtain ⟨m, rfl⟩ : ∃ m, k = m + 1 := ⟨k - 1, by
          have : k ≠ 0 := fun e => h0 (by rw [hl, e]; rfl)
          omega⟩
        refine ⟨_, rfl, _, rfl, by omega, by omega, for_range (lo := 0) (n := (vs.length : Int).toNat) (fun i σ H' => ∃ (x y : Option V), σ = [some (.ref p), some (.int (vs.length : Int)), some (.int (detS M (detF m) i)), x, y, none] ∧ Same H H')
          ⟨none, none, rfl, Same.refl H⟩ ?_ ?_⟩
        · rintro j σ H' hj ⟨x, y, rfl, s1⟩
          have hjm : j ≤ m := by omega
          have hp1 := s1 _ _ hp
          refine ⟨_, rfl, _, rfl, p, vs, rfl, SqL.of hp1, fun d hd => ?_⟩
          have e1 : cutV vs (some 1) none = vs.drop 1 := cut_drop vs (j := 1) (by omega)
          rw [e1]
          have sd : Same H' (upd H' d (.lst (vs.drop 1))) := Same.upd hd
          have src := src_list (K := K) (H1 := upd H' d (.lst (vs.drop 1))) (a := d) (xs := vs.drop 1) (SqL.of upd_same)
          have ld : (vs.drop 1).length = m := by rw [List.length_drop]; omega
          rw [ld] at src
          refine ⟨d, rfl, ⟨_, SqL.of upd_same⟩, ?_⟩
          refine lcL src (by omega) (R := fun a => RI (minorF j M a)) (m := fun _ => m) (fun a => RI.rnl) (by exact fun _ => rfl) ?_ ?_
          · intro a H2 ha s2 Qk hq
            obtain ⟨r, er, hrow⟩ := row (a + 1) (by omega)
            have eg : (vs.drop 1).getD a .non = .ref r := by
              have : (vs.drop 1)[a]? = some (.ref r) := by rw [List.getElem?_drop, Nat.add_comm]; exact er
              simp only [List.getD, this]
              rfl
            have hr2' := s2 _ _ (sd _ _ (s1 _ _ hrow))
            have lr : (rowI (m + 1) (M (a + 1))).length = m + 1 := rowI_len _ _
            refine ⟨_, rfl, _, rfl, _, rfl, r, _, eg, SqL.of hr2', fun u1 hu1 => ?_⟩
            refine ⟨_, rfl, _, rfl, _, _, rfl, rfl, _, rfl, r, _, eg, SqL.of (Same.upd hu1 _ _ hr2'), fun u2 hu2 => ?_⟩
            have nu : u1 ≠ u2 := ne_of_none upd_same hu2
            refine ⟨u1, u2, _, _, rfl, rfl, by rw [upd_ne nu, upd_same], upd_same, ?_, fun u3 hu3 => ?_⟩
            · have c1 := cutV_length (rowI (m + 1) (M (a + 1))) none (some ((0 : Int) + (j : Int)))
              have c2 := cutV_length (rowI (m + 1) (M (a + 1))) (some ((0 : Int) + (j : Int) + 1)) none
              rw [lr] at c1 c2
              exact Nat.le_trans (Nat.add_le_add c1 c2) (Nat.le_trans (show m + 1 + (m + 1) ≤ 18 by omega) (by decide))
            · have z : (0 : Int) + (j : Int) = ((j : Nat) : Int) := by omega
              have z2 : (0 : Int) + (j : Int) + 1 = ((j + 1 : Nat) : Int) := by omega
              refine hq u3 _ _ (((Same.upd hu1).trans (Same.upd hu2)).trans (Same.upd hu3)) ?_ upd_same ?_
              · exact ((Same.upd hu1).trans (Same.upd hu2)).free hu3
              · rw [z2, z, cut_take _ (by rw [lr]; omega), cut_drop _ (by rw [lr]; omega), minor_row m j _ hjm]
                exact rowI_arr
          · intro D1 H2 ps s2 hD0 hD1 hl1 _ _ nl
            have s3 : Same H' H2 := sd.trans s2
            obtain ⟨r0, er0, hrow0⟩ := row 0 (by omega)
            have z : (0 : Int) + (j : Int) = ((j : Nat) : Int) := by omega
            have at0 : atI vs (0 : Int) = some (.ref r0) := atI_nat (j := 0) er0
            have sg : -(2 ^ 64) < (1 : Int) - 2 * ((0 + (j : Int)) % 2) ∧ (1 : Int) - 2 * ((0 + (j : Int)) % 2) < 2 ^ 64 := by omega
            refine ⟨_, rfl, _, rfl, .inl ⟨_, rfl, ?_⟩⟩
            refine ⟨_, _, rfl, rfl, (by show (0 : Int) < 2; decide), ?_⟩
            refine ⟨_, _, rfl, rfl, .inl ⟨by decide, by decide⟩, _, _, rfl, rfl, ?_⟩
            refine ⟨_, rfl, p, vs, _, _, rfl, rfl, SqL.of (s3 _ _ hp1), at0, _, rfl, r0, _, _, _, rfl, rfl, SqL.of (s3 _ _ (s1 _ _ hrow0)), (by rw [z]; exact row_at (by omega)), ?_⟩
            refine ⟨_, _, rfl, rfl, .inl sg, ?_⟩
            have b0 := big 0 j (by omega) (by omega)
            have sgb : ((1 : Int) - 2 * ((0 + (j : Int)) % 2)) = 1 ∨ ((1 : Int) - 2 * ((0 + (j : Int)) % 2)) = -1 := by omega
            have cb : -(2 ^ 64) < ((1 : Int) - 2 * ((0 + (j : Int)) % 2)) * M 0 j ∧ ((1 : Int) - 2 * ((0 + (j : Int)) % 2)) * M 0 j < 2 ^ 64 := by
              have b1 : (M 0 j).natAbs < 2 ^ 40 := b0
              rcases sgb with e | e
              · rw [e]; omega
              · rw [e]; omega
            refine ⟨_, rfl, .ref D1, m, minorF j M, rfl, ?_, by omega, ?_, fun H5 s5 => ?_⟩
            · refine ⟨D1, ps.map V.ref, rfl, hD1, by rw [List.length_map]; exact hl1, fun i v e => ?_⟩
              rw [List.getElem?_map] at e
              obtain ⟨a, ea, rfl⟩ := Option.map_eq_some_iff.mp e
              obtain ⟨us, h1, h2⟩ := nl.2 i a ea
              exact ⟨a, us, rfl, h1, h2⟩
            · intro a c ha hc
              show (M (a + 1) (if c < j then c else c + 1)).natAbs < _
              exact big _ _ (by omega) (by split <;> omega)
            · refine ⟨_, _, rfl, rfl, .inl cb, _, _, rfl, rfl, ?_⟩
              refine ⟨some (.int (0 + (j : Int))), some (.ref D1), ?_, (s1.trans s3).trans s5⟩
              show ([some (.ref p), some (.int (vs.length : Int)), some (.int (detS M (detF m) j + (1 - 2 * ((0 + (j : Int)) % 2)) * M 0 j * detF m (minorF j M))), some (.int (0 + (j : Int))), some (.ref D1), none] : L2.St) = _
              rw [Int.zero_add]
              rfl
        · rintro σ H' ⟨x, y, rfl, s1⟩
          have e : (vs.length : Int).toNat = m + 1 := by omega
          rw [e]
          exact ⟨_, rfl, q H' s1⟩
end
end KW
end

section
set_option Elab.async false
set_option linter.all false
set_option maxRecDepth 100000
set_option maxHeartbeats 4000000
set_option exponentiation.threshold 100000
namespace KW
open PySem PySem.Spec PyProof.Rows L2 K38
section
variable {P : Program} {w : World} {K : PySem.W.Frag} {mg : Str → Option Value} {base : Heap} {C : Addr}
abbrev s_ratios : Stmt := top 42
abbrev N_ratios : List Str := ["_law_rows_here", "_law_factor_here", "_law_row", "_law_x"]
theorem sc_ratios : FnScope N_ratios ["_law_rows_here", "_law_factor_here"] (defScope s_ratios) := ⟨rfl, rfl, rfl, by decide +kernel, rfl, by decide +kernel, by decide +kernel⟩
theorem ok_ratios {f : Addr} {fd : FuncData} (F : Fun K "_law_ratios" "_law_ratios" s_ratios f fd) (T : RO P w K mg base C) (B : NM mg) : FnOk P w K mg base CX0 5 f fd ["_law_rows_here", "_law_factor_here"] (spRatios C) := by
  refine F.ok sc_ratios (fun vs H Q E h => ?_) (fun cdv A outer s H vs Q E hr h => ?_)
  · obtain ⟨v, t, D, n, a, b, rfl, _⟩ := h
    rfl
  · obtain ⟨v, t, D, n, a, b, rfl, hD, n8, ht, b0, b1, a0, a1, big, q⟩ := h
    rcases hD with hD | hD
    · refine ⟨_, (pss_one (ps_ret (pe_callTy call_tuple_of (by rfl) B.tuple (by decide +kernel) (pa_cons (lcG (pe_lc (own := [("_law_row", 2)]) (g := gName 2) rfl sc_ratios.nd (pi_list (pv 0)) (blkOk_by (own := [("_law_row", 2)]) (N := N_ratios) (sc := defScope s_ratios) (by decide +kernel)) (fun _ _ _ _ _ => (pg_name (i := 2) sc_ratios.nd rfl (Or.inl rfl))) (fun _ _ _ _ _ => pts_nil) (fun _ _ _ _ _ => (pe_callTy (call_tupleK K rfl) (by rfl) B.tuple (by decide +kernel) (pa_cons (lcG (pe_lc (own := [("_law_x", 3)]) (g := gName 3) rfl sc_ratios.nd (pi_tupK K rfl (pv 2)) (blk_in (own := [("_law_x", 3)]) (N := N_ratios) (sc0 := defScope s_ratios) rfl (by decide +kernel)) (fun _ _ _ _ _ => (pg_name (i := 3) sc_ratios.nd rfl (Or.inl rfl))) (fun _ _ _ _ _ => pts_nil) (fun _ _ _ _ _ => (T.pe_mk2 hr (pa_cons (pe_op op_mul (pv 3) (pe_ix (ix_tupK K rfl) (pv 1) pe_int (fun _ _ => rfl))) (pa_cons (pe_ix (ix_tupK K rfl) (pv 1) pe_int (fun _ _ => rfl)) pa_nil)))))) pa_nil))))) pa_nil)))), ?_⟩
      obtain ⟨p, vs, rfl, hp, hl, row⟩ := hD.row
      have src := src_list (K := K) (H1 := H) (a := p) (xs := vs) (SqL.of hp)
      rw [hl] at src
      refine ⟨_, rfl, p, rfl, ⟨_, SqL.of hp⟩, ?_⟩
      refine lcN src (by omega) (R := fun i v H => TupA (RQ C fun j => ((D i j * a : Int) : Rat) / (b : Rat)) n v H) rowT_rnl (by exact fun _ => rfl) ?_ ?_
      · intro i H1 hi s1 Qk hq
        obtain ⟨r, er, hrow⟩ := row i hi
        have eg : vs.getD i .non = .ref r := by simp only [List.getD, er]; rfl
        have hrow1 := s1 _ _ hrow
        have src2 := src_tup (K := K) (H1 := H1) (a := r) (xs := rowI n (D i)) (SqT.of hrow1)
        rw [rowI_len] at src2
        refine ⟨_, rfl, r, eg, ⟨_, SqT.of hrow1⟩, ?_⟩
        refine lcN src2 (by omega) (R := RQ C fun j => ((D i j * a : Int) : Rat) / (b : Rat)) RQ.rnl (by exact fun _ => rfl) ?_ ?_
        · intro j H2 hj s2 Qk2 hq2
          have ht2 := s2 _ _ (s1 _ _ ht)
          have ex : (rowI n (D i)).getD j .non = .int (D i j) := by simp only [List.getD, rowI_get hj]; rfl
          have bd := big i j hi hj
          refine ⟨_, rfl, _, rfl, t, _, _, _, rfl, rfl, SqT.of ht2, (by exact rfl), _, _, ex, rfl, .inl ⟨by omega, by omega⟩, ?_⟩
          refine ⟨_, rfl, t, _, _, _, rfl, rfl, SqT.of ht2, (by exact rfl), ?_⟩
          refine ⟨_, _, rfl, b0, Nat.lt_trans (show b.natAbs < 128 by omega) (by decide +kernel), fun v H3 s3 r3 => ?_⟩
          exact hq2 v H3 s3 r3
        · intro D1 H2 ys s2 hD0 hD1 ar
          refine ⟨D1, ys, rfl, .inl ⟨SqL.of hD1, fun l hl => ?_⟩⟩
          exact hq _ _ (s2.trans (Same.upd hl)) ⟨l, ys, rfl, upd_same, ar.nl RQ.rnl (NL.of (Same.upd hl))⟩
      · intro D1 H2 ys s2 hD0 hD1 ar
        refine ⟨D1, ys, rfl, .inl ⟨SqL.of hD1, fun l hl => ?_⟩⟩
        exact q _ _ (s2.trans (Same.upd hl)) ⟨l, ys, rfl, upd_same, ar.nl rowT_rnl (NL.of (Same.upd hl))⟩
    · refine ⟨_, (pss_one (ps_ret (pe_callTy call_tuple_of (by rfl) B.tuple (by decide +kernel) (pa_cons (lcG (pe_lc (own := [("_law_row", 2)]) (g := gName 2) rfl sc_ratios.nd (pi_list (pv 0)) (blkOk_by (own := [("_law_row", 2)]) (N := N_ratios) (sc := defScope s_ratios) (by decide +kernel)) (fun _ _ _ _ _ => (pg_name (i := 2) sc_ratios.nd rfl (Or.inl rfl))) (fun _ _ _ _ _ => pts_nil) (fun _ _ _ _ _ => (pe_callTy (call_tupleK K rfl) (by rfl) B.tuple (by decide +kernel) (pa_cons (lcG (pe_lc (own := [("_law_x", 3)]) (g := gName 3) rfl sc_ratios.nd (pi_listK K rfl (pv 2)) (blk_in (own := [("_law_x", 3)]) (N := N_ratios) (sc0 := defScope s_ratios) rfl (by decide +kernel)) (fun _ _ _ _ _ => (pg_name (i := 3) sc_ratios.nd rfl (Or.inl rfl))) (fun _ _ _ _ _ => pts_nil) (fun _ _ _ _ _ => (T.pe_mk2 hr (pa_cons (pe_op op_mul (pv 3) (pe_ix (ix_tupK K rfl) (pv 1) pe_int (fun _ _ => rfl))) (pa_cons (pe_ix (ix_tupK K rfl) (pv 1) pe_int (fun _ _ => rfl)) pa_nil)))))) pa_nil))))) pa_nil)))), ?_⟩
      obtain ⟨p, vs, rfl, hp, hl, row⟩ := hD.row
      have src := src_list (K := K) (H1 := H) (a := p) (xs := vs) (SqL.of hp)
      rw [hl] at src
      refine ⟨_, rfl, p, rfl, ⟨_, SqL.of hp⟩, ?_⟩
      refine lcN src (by omega) (R := fun i v H => TupA (RQ C fun j => ((D i j * a : Int) : Rat) / (b : Rat)) n v H) rowT_rnl (by exact fun _ => rfl) ?_ ?_
      · intro i H1 hi s1 Qk hq
        obtain ⟨r, er, hrow⟩ := row i hi
        have eg : vs.getD i .non = .ref r := by simp only [List.getD, er]; rfl
        have hrow1 := s1 _ _ hrow
        have src2 := src_list (K := K) (H1 := H1) (a := r) (xs := rowI n (D i)) (SqL.of hrow1)
        rw [rowI_len] at src2
        refine ⟨_, rfl, r, eg, ⟨_, SqL.of hrow1⟩, ?_⟩
        refine lcN src2 (by omega) (R := RQ C fun j => ((D i j * a : Int) : Rat) / (b : Rat)) RQ.rnl (by exact fun _ => rfl) ?_ ?_
        · intro j H2 hj s2 Qk2 hq2
          have ht2 := s2 _ _ (s1 _ _ ht)
          have ex : (rowI n (D i)).getD j .non = .int (D i j) := by simp only [List.getD, rowI_get hj]; rfl
          have bd := big i j hi hj
          refine ⟨_, rfl, _, rfl, t, _, _, _, rfl, rfl, SqT.of ht2, (by exact rfl), _, _, ex, rfl, .inl ⟨by omega, by omega⟩, ?_⟩
          refine ⟨_, rfl, t, _, _, _, rfl, rfl, SqT.of ht2, (by exact rfl), ?_⟩
          refine ⟨_, _, rfl, b0, Nat.lt_trans (show b.natAbs < 128 by omega) (by decide +kernel), fun v H3 s3 r3 => ?_⟩
          exact hq2 v H3 s3 r3
        · intro D1 H2 ys s2 hD0 hD1 ar
          refine ⟨D1, ys, rfl, .inl ⟨SqL.of hD1, fun l hl => ?_⟩⟩
          exact hq _ _ (s2.trans (Same.upd hl)) ⟨l, ys, rfl, upd_same, ar.nl RQ.rnl (NL.of (Same.upd hl))⟩
      · intro D1 H2 ys s2 hD0 hD1 ar
        refine ⟨D1, ys, rfl, .inl ⟨SqL.of hD1, fun l hl => ?_⟩⟩
        exact q _ _ (s2.trans (Same.upd hl)) ⟨l, ys, rfl, upd_same, ar.nl rowT_rnl (NL.of (Same.upd hl))⟩
end
end KW
end

section
set_option Elab.async false
set_option linter.all false
set_option maxRecDepth 100000
set_option maxHeartbeats 4000000
set_option exponentiation.threshold 100000
namespace KW
open PySem PySem.Spec PyProof.Rows L2 K38
section
variable {P : Program} {w : World} {K : PySem.W.Frag} {mg : Str → Option Value} {base : Heap} {C : Addr}
abbrev s_rank : Stmt := top 47
abbrev N_rank : List Str := ["_law_rows_here", "_law_best", "_law_part", "_law_i", "_law_j"]
theorem sc_rank : FnScope N_rank ["_law_rows_here"] (defScope s_rank) := ⟨rfl, rfl, rfl, by decide +kernel, rfl, by decide +kernel, by decide +kernel⟩
/-- the table of some rows and columns is laid; what a determinant's call needs -/
theorem ok_rank {f fD fP : Addr} {fd fdD fdP : FuncData} (F : Fun K "_law_rank" "_law_rank" s_rank f fd) (B : NM mg) (G_parts : FnAt P w K mg base CX0 2 "_law_parts" fP fdP ["_law_n"] [] spParts)
    (G_determinant : FnAt P w K mg base CX0 10 "_law_determinant" fD fdD ["_law_rows_here"] [] (spDet 4)) : FnOk P w K mg base CX0 11 f fd ["_law_rows_here"] spRank := by
  refine F.ok sc_rank (fun vs H Q E h => ?_) (fun cdv A outer s H vs Q E hr h => ?_)
  · obtain ⟨v, n, D, rfl, _⟩ := h
    rfl
  · obtain ⟨v, n, M, rfl, hM, n4, big, q⟩ := h
    refine ⟨_, (pss_cons (ps_set (i := 1) sc_rank.nd rfl (Or.inl rfl) pe_int)
  (pss_cons (ps_for PassesOwn.never rfl (pi_list (pe_call G_parts.ok (hr.mono (by decide)) rfl G_parts.mgf G_parts.kp G_parts.b .nil pass0 (pa_cons (pe_callB call_len_seq (by rfl) B.len (by decide +kernel) (pa_cons (pv 0) pa_nil)) pa_nil))) (pg_name (i := 2) sc_rank.nd rfl (Or.inr rfl))
  (pss_one (ps_if (pt_cmpR op_ne (pe_call G_determinant.ok (hr.mono (by decide)) rfl G_determinant.mgf G_determinant.kp G_determinant.b .nil pass0 (pa_cons (lcG (pe_lc (own := [("_law_i", 3)]) (g := gName 3) rfl sc_rank.nd (pi_tup (pv 2)) (blkOk_by (own := [("_law_i", 3)]) (N := N_rank) (sc := defScope s_rank) (by decide +kernel)) (fun _ _ _ _ _ => (pg_name (i := 3) sc_rank.nd rfl (Or.inr rfl))) (fun _ _ _ _ _ => pts_nil) (fun _ _ _ _ _ => (lcG (pe_lc (own := [("_law_j", 4)]) (g := gName 4) rfl sc_rank.nd (pi_tupK K rfl (pv 2)) (blk_in (own := [("_law_j", 4)]) (N := N_rank) (sc0 := defScope s_rank) rfl (by decide +kernel)) (fun _ _ _ _ _ => (pg_name (i := 4) sc_rank.nd rfl (Or.inl rfl))) (fun _ _ _ _ _ => pts_nil) (fun _ _ _ _ _ => (pe_ix (ix_listK K rfl) (pe_ix (ix_listK K rfl) (pv 0) (pv 3) (fun _ _ => rfl)) (pv 4) (fun _ _ => rfl)))))))) pa_nil)) pe_int (nomark _)) (pss_one (ps_set (i := 1) sc_rank.nd rfl (Or.inl rfl) (pe_callB (call_max2 rfl) (by rfl) B.max (by decide +kernel) (pa_cons (pv 1) (pa_cons (pe_callB call_len_seq (by rfl) B.len (by decide +kernel) (pa_cons (pv 2) pa_nil)) pa_nil))))) pss_nil)))
  (pss_one (ps_ret (pv 1))))), ?_⟩
    obtain ⟨p, vs, rfl, hp, hl, row⟩ := hM.row
    refine ⟨_, rfl, p, _, rfl, .inl (SqL.of hp), ?_⟩
    refine ⟨n, by rw [hl]; rfl, n4, fun v H1 s1 hL => ?_⟩
    obtain ⟨l, us, rfl, hlu, ar⟩ := hL
    refine ⟨l, rfl, ⟨_, SqL.of hlu⟩, for_list (K := K) (a := l) (xs := us) (fun i σ H' => ∃ (r : Nat) (v : Option V), σ = [some (.ref p), some (.int (r : Int)), v, none, none] ∧ Same H1 H' ∧
        (∀ k, k < i → ∀ S, (parts n)[k]? = some S → detF S.length (sub M S) ≠ 0 → S.length ≤ r) ∧ (r = 0 ∨ ∃ S ∈ parts n, S.length = r ∧ detF S.length (sub M S) ≠ 0))
      ⟨0, none, rfl, Same.refl _, fun k hk => absurd hk (by omega), .inl rfl⟩ (fun i σ H' _ ⟨_, _, _, s2, _⟩ => SqL.of (s2 _ _ hlu)) ?_ ?_⟩
    · rintro i y σ H' hi ⟨r, v, rfl, s2, up, at_⟩
      have hin := ar.lt hi
      obtain ⟨S, eS, t, ws, rfl, ht, arS⟩ := RP.rnl i y H1 H' (NL.of s2) (ar.2 i y hi)
      have ew := arr_rowI arS
      subst ew
      have pS := parts_ok n S (List.mem_of_getElem? eS)
      have hp2 : H' p = some (.lst vs) := s2 _ _ (s1 _ _ hp)
      have src : ∀ Hk, Same H' Hk → Src (Itt K t) S.length (fun i => (rowI S.length fun j => ((S.getD j 0 : Nat) : Int)).getD i .non) Hk := fun Hk sk => by
        have s := src_tup (K := K) (H1 := Hk) (a := t) (SqT.of (sk _ _ ht))
        rw [rowI_len] at s
        exact s
      have it : ∀ j, j < S.length → (rowI S.length fun j => ((S.getD j 0 : Nat) : Int)).getD j .non = .int ((S.getD j 0 : Nat) : Int) := fun j hj => by
        simp only [List.getD, rowI_get hj]
        rfl
      have inS : ∀ j, j < S.length → S.getD j 0 < n := fun j hj => by
        refine pS.2 _ ?_
        simp only [List.getD, List.getElem?_eq_getElem hj]
        exact List.getElem_mem hj
      refine ⟨_, rfl, t, rfl, ⟨_, SqT.of ht⟩, ?_⟩
      refine lcL (src H' (Same.refl _)) (by omega) (R := fun a => RI (sub M S a)) (m := fun _ => S.length) (fun a => RI.rnl) (by exact fun _ => rfl) ?_ ?_
      · intro a Ha ha sa Qk hq
        refine ⟨_, rfl, t, rfl, ⟨_, SqT.of (sa _ _ ht)⟩, ?_⟩
        refine lcN (src Ha sa) (by omega) (R := RI (sub M S a)) RI.rnl (by exact fun _ => rfl) ?_ ?_
        · intro c Hc hc sc Qk2 hq2
          obtain ⟨r1, er1, hr1⟩ := row (S.getD a 0) (inS a ha)
          refine ⟨_, rfl, _, rfl, p, vs, _, _, rfl, it a ha, SqL.of (sc _ _ (sa _ _ hp2)), atI_nat er1, _, rfl, r1, _, _, _, rfl, it c hc, SqL.of (sc _ _ (sa _ _ (s2 _ _ (s1 _ _ hr1)))), row_at (inS c hc), ?_⟩
          exact hq2 _ _ (Same.refl _) rfl
        · intro D1 H2 ys s3 hD0 hD1 ar2
          exact hq D1 ys H2 s3 hD0 hD1 ar2
      · intro D1 H2 ps s3 hD0 hD1 hl1 _ _ nl
        refine ⟨.ref D1, S.length, sub M S, rfl, ?_, by omega, fun a c ha hc => big _ _ (inS a ha) (inS c hc), fun H3 s4 => ?_⟩
        · refine ⟨D1, ps.map V.ref, rfl, hD1, by rw [List.length_map]; exact hl1, fun i v e => ?_⟩
          rw [List.getElem?_map] at e
          obtain ⟨a, ea, rfl⟩ := Option.map_eq_some_iff.mp e
          obtain ⟨us, h1, h2⟩ := nl.2 i a ea
          exact ⟨a, us, rfl, h1, h2⟩
        · have sf : Same H1 H3 := (s2.trans s3).trans s4
          have up' : ∀ r', r ≤ r' → (detF S.length (sub M S) ≠ 0 → S.length ≤ r') → ∀ k, k < i + 1 → ∀ S, (parts n)[k]? = some S → detF S.length (sub M S) ≠ 0 → S.length ≤ r' := fun r' hr' hS k hk S' e' ne => by
            rcases (show k < i ∨ k = i by omega) with h | h
            · have := up k h S' e' ne
              omega
            · rw [h, eS] at e'
              cases e'
              exact hS ne
          refine ⟨rfl, _, rfl, ?_⟩
          by_cases h0 : detF S.length (sub M S) = 0
          · have e0 : (!decide (V.int (detF S.length (sub M S)) = V.int 0)) = false := by rw [h0]; rfl
            rw [e0]
            exact iteF ⟨r, _, rfl, sf, up' r (by omega) (fun ne => absurd h0 ne), at_⟩
          · have e0 : (!decide (V.int (detF S.length (sub M S)) = V.int 0)) = true := by
              rw [decide_eq_false (fun z => h0 (by injection z))]
              rfl
            rw [e0]
            refine iteT ⟨_, rfl, _, rfl, t, _, rfl, .inr (SqT.of (s4 _ _ (s3 _ _ ht))), _, _, rfl, ?_⟩
            rw [rowI_len]
            by_cases hlt : ((S.length : Nat) : Int) > (r : Int)
            · rw [if_pos hlt]
              exact ⟨S.length, _, rfl, sf, up' _ (by omega) (fun _ => Nat.le_refl _), .inr ⟨S, List.mem_of_getElem? eS, rfl, h0⟩⟩
            · rw [if_neg hlt]
              exact ⟨r, _, rfl, sf, up' r (by omega) (fun _ => by omega), at_⟩
    · rintro σ H' ⟨r, v, rfl, s2, up, at_⟩
      refine ⟨_, rfl, q r H' (s1.trans s2) (fun S hS ne => ?_) ?_⟩
      · obtain ⟨k, hk, e⟩ := List.mem_iff_getElem.mp hS
        exact up k (by rw [ar.1]; exact hk) S (by rw [List.getElem?_eq_getElem hk, e]) ne
      · rcases at_ with rfl | h
        · refine ⟨[], ?_, rfl, (by show (1 : Int) ≠ 0; decide)⟩
          have : ∀ m : Nat, ([] : List Nat) ∈ parts m := fun m => by
            induction m with
            | zero => exact List.mem_singleton.mpr rfl
            | succ m ih => exact List.mem_append_left _ ih
          exact this n
        · exact h
end
end KW
end

section
set_option Elab.async false
set_option linter.all false
set_option maxRecDepth 100000
set_option maxHeartbeats 4000000
set_option exponentiation.threshold 100000
namespace KW
open PySem PySem.Spec PyProof.Rows L2 K38
section
variable {P : Program} {w : World} {K : PySem.W.Frag} {mg : Str → Option Value} {base : Heap} {C : Addr}
abbrev s_renamed : Stmt := top 35
abbrev N_renamed : List Str := ["_law_rows_here", "_law_order", "_law_x", "_law_y"]
theorem sc_renamed : FnScope N_renamed ["_law_rows_here", "_law_order"] (defScope s_renamed) := ⟨rfl, rfl, rfl, by decide +kernel, rfl, by decide +kernel, by decide +kernel⟩
theorem ok_renamed {f : Addr} {fd : FuncData} (F : Fun K "_law_renamed" "_law_renamed" s_renamed f fd) (B : NM mg) : FnOk P w K mg base CX0 2 f fd ["_law_rows_here", "_law_order"] spRenamed := by
  refine F.ok sc_renamed (fun vs H Q E h => ?_) (fun cdv A outer s H vs Q E hr h => ?_)
  · obtain ⟨v, o, m, D, F, rfl, _⟩ := h
    rfl
  · obtain ⟨v, o, m, D, F, rfl, hD, ho, hF, l7, m7, q⟩ := h
    refine ⟨_, (pss_one (ps_ret (lcG (pe_lc (own := [("_law_x", 2)]) (g := gName 2) rfl sc_renamed.nd (pi_list (pv 1)) (blkOk_by (own := [("_law_x", 2)]) (N := N_renamed) (sc := defScope s_renamed) (by decide +kernel)) (fun _ _ _ _ _ => (pg_name (i := 2) sc_renamed.nd rfl (Or.inr rfl))) (fun _ _ _ _ _ => pts_nil) (fun _ _ _ _ _ => (pe_callTy (call_tupleK K rfl) (by rfl) B.tuple (by decide +kernel) (pa_cons (lcG (pe_lc (own := [("_law_y", 3)]) (g := gName 3) rfl sc_renamed.nd (pi_listK K rfl (pv 1)) (blk_in (own := [("_law_y", 3)]) (N := N_renamed) (sc0 := defScope s_renamed) rfl (by decide +kernel)) (fun _ _ _ _ _ => (pg_name (i := 3) sc_renamed.nd rfl (Or.inl rfl))) (fun _ _ _ _ _ => pts_nil) (fun _ _ _ _ _ => (pe_ix (ix_tupK K rfl) (pe_ix (ix_listK K rfl) (pv 0) (pv 2) (fun _ _ => rfl)) (pv 3) (fun _ _ => rfl))))) pa_nil))))))), ?_⟩
    obtain ⟨p, vs, rfl, hp, hl, row⟩ := hD.row
    have srcF : ∀ Hk, Same H Hk → Src (Itl K o) F.length (fun i => (F.map V.int).getD i .non) Hk := fun Hk sk => by
      have s := src_list (K := K) (H1 := Hk) (a := o) (SqL.of (sk _ _ ho))
      rw [List.length_map] at s
      exact s
    have itF : ∀ j, j < F.length → (F.map V.int).getD j .non = .int (F.getD j 0) := fun j hj => by
      simp only [List.getD, List.getElem?_map, List.getElem?_eq_getElem hj]
      rfl
    have rgF : ∀ j, j < F.length → 0 ≤ F.getD j 0 ∧ F.getD j 0 < (m : Int) := fun j hj => by
      have e : F.getD j 0 = F[j] := by simp only [List.getD, List.getElem?_eq_getElem hj]; rfl
      rw [e]
      exact hF _ (List.getElem_mem hj)
    refine ⟨_, rfl, o, rfl, ⟨_, SqL.of ho⟩, ?_⟩
    refine lcN (srcF H (Same.refl _)) (by omega) (R := RT2 (fun x y => D ((F.getD x 0).toNat) ((F.getD y 0).toNat)) F.length) RT2.rnl (by exact fun _ => rfl) ?_ ?_
    · intro a Ha ha sa Qk hq
      refine ⟨_, rfl, o, rfl, ⟨_, SqL.of (sa _ _ ho)⟩, ?_⟩
      refine lcN (srcF Ha sa) (by omega) (R := RI fun y => D ((F.getD a 0).toNat) ((F.getD y 0).toNat)) RI.rnl (by exact fun _ => rfl) ?_ ?_
      · intro c Hc hc sc Qk2 hq2
        have ra := rgF a ha
        have rc := rgF c hc
        obtain ⟨r1, er1, hr1⟩ := row ((F.getD a 0).toNat) (by omega)
        have ea : F.getD a 0 = (((F.getD a 0).toNat : Nat) : Int) := by omega
        have ec : F.getD c 0 = (((F.getD c 0).toNat : Nat) : Int) := by omega
        refine ⟨_, rfl, _, rfl, p, vs, _, _, rfl, itF a ha, SqL.of (sc _ _ (sa _ _ hp)), (by rw [ea]; exact atI_nat er1), _, rfl, r1, _, _, _, rfl, itF c hc, SqT.of (sc _ _ (sa _ _ hr1)), (by rw [ec]; exact row_at (by omega)), ?_⟩
        exact hq2 _ _ (Same.refl _) rfl
      · intro D1 H2 ys s2 hD0 hD1 ar
        refine ⟨D1, ys, rfl, .inl ⟨SqL.of hD1, fun l hl => ?_⟩⟩
        exact hq _ _ (s2.trans (Same.upd hl)) ⟨l, ys, rfl, upd_same, ar.nl RI.rnl (NL.of (Same.upd hl))⟩
    · intro D1 H2 ys s2 hD0 hD1 ar
      exact q _ _ s2 ⟨D1, ys, rfl, hD1, ar⟩
abbrev s_distances : Stmt := top 50
abbrev N_distances : List Str := ["_law_points", "_law_a", "_law_b", "_law_k"]
theorem sc_distances : FnScope N_distances ["_law_points"] (defScope s_distances) := ⟨rfl, rfl, rfl, by decide +kernel, rfl, by decide +kernel, by decide +kernel⟩
/-- ints of a kind -/
def RE (P : Nat → Int → Prop) : Rep := fun j v _ => ∃ r, v = .int r ∧ P j r
theorem RE.rnl {P : Nat → Int → Prop} : RNL (RE P) := fun _ _ _ _ _ h => h
def intV : V → Int
  | .int i => i
  | _ => 0
def listAt (H : Hp) (ps : List Addr) (i : Nat) : List V := match H (ps.getD i 0) with
  | some (.lst vs) => vs
  | _ => []
theorem sq40 {t : Int} (h : t.natAbs ≤ 40) : 0 ≤ t ^ 2 ∧ t ^ 2 ≤ 1600 := by
  have e : t ^ 2 = ((t.natAbs * t.natAbs : Nat) : Int) := by
    rw [Int.pow_succ, Int.pow_succ, Int.pow_zero, Int.one_mul, Int.natCast_mul]
    exact (Int.natAbs_mul_self' t).symm
  have := Nat.mul_le_mul h h
  omega
/-- the distances told: new lists -/
def spDistN : Sp := fun vs H Q _ => ∃ (v : V) (L : List Pt), vs = [v] ∧ LstA (RPt L) L.length v H ∧ PtOk L ∧
  ∀ (D : Mi) (p : Addr) (ps : List Addr) H', Same H H' → (∀ i j, i < L.length → j < L.length → (0 ≤ D i j ∧ D i j * D i j = d2 (pAt L i) (pAt L j)) ∨ D i j = -1) → H p = none → H' p = some (.lst (ps.map V.ref)) → ps.length = L.length →
    (∀ a ∈ ps, H a = none) → (∀ i a, ps[i]? = some a → H' a = some (.lst (rowI L.length (D i)))) → Q (.ref p) H'
theorem ok_dist {f fR : Addr} {fd fdR : FuncData} (F : Fun K "_law_distances" "_law_distances" s_distances f fd) (B : NM mg) (G_root : FnAt P w K mg base CX0 2 "_law_root" fR fdR ["_law_value"] [] spRoot) : FnOk P w K mg base CX0 4 f fd ["_law_points"] spDistN := by
  refine F.ok sc_distances (fun vs H Q E h => ?_) (fun cdv A outer s H vs Q E hr h => ?_)
  · obtain ⟨v, L, rfl, _⟩ := h
    rfl
  · obtain ⟨v, L, rfl, hL, ok, q⟩ := h
    refine ⟨_, (pss_one (ps_ret (lcG (pe_lc (own := [("_law_a", 1)]) (g := gName 1) rfl sc_distances.nd (pi_list (pv 0)) (blkOk_by (own := [("_law_a", 1)]) (N := N_distances) (sc := defScope s_distances) (by decide +kernel)) (fun _ _ _ _ _ => (pg_name (i := 1) sc_distances.nd rfl (Or.inr rfl))) (fun _ _ _ _ _ => pts_nil) (fun _ _ _ _ _ => (lcG (pe_lc (own := [("_law_b", 2)]) (g := gName 2) rfl sc_distances.nd (pi_listK K rfl (pv 0)) (blk_in (own := [("_law_b", 2)]) (N := N_distances) (sc0 := defScope s_distances) rfl (by decide +kernel)) (fun _ _ _ _ _ => (pg_name (i := 2) sc_distances.nd rfl (Or.inr rfl))) (fun _ _ _ _ _ => pts_nil) (fun _ _ _ _ _ => (pe_call G_root.ok (hr.mono (by decide)) rfl G_root.mgf G_root.kp G_root.b .nil pass0 (pa_cons (pe_callB (cr_sumK K rfl rfl) (by rfl) B.sum (by decide +kernel) (pa_cons (lcG (pe_lc (own := [("_law_k", 3)]) (g := gName 3) rfl sc_distances.nd (pi_range1 rfl B.range (pa_cons pe_int pa_nil)) (blk_in2 (own := [("_law_k", 3)]) (N := N_distances) (sc0 := defScope s_distances) rfl (by decide +kernel)) (fun _ _ _ _ _ => (pg_name (i := 3) sc_distances.nd rfl (Or.inl rfl))) (fun _ _ _ _ _ => pts_nil) (fun _ _ _ _ _ => (pe_op op_pow (pe_op op_sub (pe_ix (ix_tupK K rfl) (pv 1) (pv 3) (fun _ _ => rfl)) (pe_ix (ix_tupK K rfl) (pv 2) (pv 3) (fun _ _ => rfl))) pe_int)))) pa_nil)) pa_nil)))))))))), ?_⟩
    obtain ⟨p, vs, rfl, hp, ar, src⟩ := hL.src (K := K)
    obtain ⟨l1, l5, nd, bd⟩ := ok
    have item : ∀ i, i < L.length → ∃ r, vs.getD i .non = .ref r ∧ H r = some (.tup [.int (pAt L i).1, .int (pAt L i).2.1, .int (pAt L i).2.2]) := fun i hi => by
      obtain ⟨_, r, a, ea, ev, hr⟩ := ar.item hi
      have e : pAt L i = a := by unfold pAt; simp only [List.getD, ea]; rfl
      rw [e]
      exact ⟨r, ev, hr⟩
    have bdp : ∀ i, i < L.length → (pAt L i).1.natAbs ≤ 20 ∧ (pAt L i).2.1.natAbs ≤ 20 ∧ (pAt L i).2.2.natAbs ≤ 20 := fun i hi => by
      have e : pAt L i = L[i] := by unfold pAt; simp only [List.getD, List.getElem?_eq_getElem hi]; rfl
      rw [e]
      exact bd _ (List.getElem_mem hi)
    refine ⟨_, rfl, p, rfl, ⟨_, SqL.of hp⟩, ?_⟩
    refine lcL src (by omega) (R := fun i => RE fun j r => (0 ≤ r ∧ r * r = d2 (pAt L i) (pAt L j)) ∨ r = -1) (m := fun _ => L.length) (fun i => RE.rnl) (by exact fun _ => rfl) ?_ ?_
    · intro a Ha ha sa Qk hq
      have src2 := src_list (K := K) (H1 := Ha) (a := p) (xs := vs) (SqL.of (sa _ _ hp))
      rw [ar.1] at src2
      refine ⟨_, rfl, p, rfl, ⟨_, SqL.of (sa _ _ hp)⟩, ?_⟩
      refine lcN src2 (by omega) (R := RE fun j r => (0 ≤ r ∧ r * r = d2 (pAt L a) (pAt L j)) ∨ r = -1) RE.rnl (by exact fun _ => rfl) ?_ ?_
      · intro c Hc hc sc Qk2 hq2
        obtain ⟨ra, ea, hra⟩ := item a ha
        obtain ⟨rc, ec, hrc⟩ := item c hc
        have hra' := sc _ _ (sa _ _ hra)
        have hrc' := sc _ _ (sa _ _ hrc)
        have ba := bdp a ha
        have bc := bdp c hc
        refine ⟨_, rfl, by decide, by decide, ?_⟩
        refine lcN (src_range (lo := 0) (n := 3)) (by decide) (R := RI fun k => match k with | 0 => ((pAt L a).1 - (pAt L c).1) ^ 2 | 1 => ((pAt L a).2.1 - (pAt L c).2.1) ^ 2 | _ => ((pAt L a).2.2 - (pAt L c).2.2) ^ 2) RI.rnl (by exact fun _ => rfl) ?_ ?_
        · intro k Hk hk sk Qk3 hq3
          have hra2 := sk _ _ hra'
          have hrc2 := sk _ _ hrc'
          match k, hk with
          | 0, _ =>
            refine ⟨_, rfl, _, rfl, ra, _, _, _, ea, rfl, SqT.of hra2, (by exact rfl), _, rfl, _, rfl, rc, _, _, _, ec, rfl, SqT.of hrc2, (by exact rfl), _, _, rfl, rfl, _, _, rfl, rfl, ⟨by decide, by decide, by omega⟩, ?_⟩
            exact hq3 _ _ (Same.refl _) rfl
          | 1, _ =>
            refine ⟨_, rfl, _, rfl, ra, _, _, _, ea, rfl, SqT.of hra2, (by exact rfl), _, rfl, _, rfl, rc, _, _, _, ec, rfl, SqT.of hrc2, (by exact rfl), _, _, rfl, rfl, _, _, rfl, rfl, ⟨by decide, by decide, by omega⟩, ?_⟩
            exact hq3 _ _ (Same.refl _) rfl
          | 2, _ =>
            refine ⟨_, rfl, _, rfl, ra, _, _, _, ea, rfl, SqT.of hra2, (by exact rfl), _, rfl, _, rfl, rc, _, _, _, ec, rfl, SqT.of hrc2, (by exact rfl), _, _, rfl, rfl, _, _, rfl, rfl, ⟨by decide, by decide, by omega⟩, ?_⟩
            exact hq3 _ _ (Same.refl _) rfl
          | k + 3, h => exact absurd h (by omega)
        · intro D1 H2 ys s2 hD0 hD1 ar2
          have ey := arr_rowI ar2
          subst ey
          refine ⟨D1, [((pAt L a).1 - (pAt L c).1) ^ 2, ((pAt L a).2.1 - (pAt L c).2.1) ^ 2, ((pAt L a).2.2 - (pAt L c).2.2) ^ 2], rfl, SqL.of hD1, ?_⟩
          have es : ([((pAt L a).1 - (pAt L c).1) ^ 2, ((pAt L a).2.1 - (pAt L c).2.1) ^ 2, ((pAt L a).2.2 - (pAt L c).2.2) ^ 2] : List Int).sum = d2 (pAt L a) (pAt L c) := by
            simp only [List.sum_cons, List.sum_nil]
            unfold d2
            omega
          rw [es]
          have q1 := sq40 (t := (pAt L a).1 - (pAt L c).1) (by omega)
          have q2 := sq40 (t := (pAt L a).2.1 - (pAt L c).2.1) (by omega)
          have q3 := sq40 (t := (pAt L a).2.2 - (pAt L c).2.2) (by omega)
          refine ⟨_, rfl, by unfold d2; omega, by unfold d2; omega, fun r H3 s3 hr3 => ?_⟩
          exact hq2 _ _ (s2.trans s3) ⟨r, rfl, hr3⟩
      · intro D1 H2 ys s2 hD0 hD1 ar2
        exact hq D1 ys H2 s2 hD0 hD1 ar2
    · intro D1 H2 ps s2 hD0 hD1 hl1 _ hfr nl
      have get : ∀ i, i < L.length → ∃ a vs, ps[i]? = some a ∧ H2 a = some (.lst vs) ∧ listAt H2 ps i = vs ∧ Arr (RE fun j r => (0 ≤ r ∧ r * r = d2 (pAt L i) (pAt L j)) ∨ r = -1) L.length vs H2 := fun i hi => by
        have hi' : i < ps.length := by omega
        obtain ⟨vs, h1, h2⟩ := nl.2 i ps[i] (List.getElem?_eq_getElem hi')
        refine ⟨ps[i], vs, List.getElem?_eq_getElem hi', h1, ?_, h2⟩
        have e : ps.getD i 0 = ps[i] := by simp only [List.getD, List.getElem?_eq_getElem hi']; rfl
        unfold listAt
        rw [e, h1]
      refine q (fun i j => intV ((listAt H2 ps i).getD j .non)) D1 ps _ s2 (fun i j hi hj => ?_) hD0 hD1 hl1 hfr (fun i a ea => ?_)
      · obtain ⟨a, vs, _, _, e2, h2⟩ := get i hi
        obtain ⟨_, r, er, hr⟩ := h2.item hj
        show (0 ≤ intV ((listAt H2 ps i).getD j .non) ∧ _) ∨ _
        rw [e2, er]
        exact hr
      · have hi : i < L.length := by rw [← hl1]; exact (List.getElem?_eq_some_iff.mp ea).1
        obtain ⟨a', vs, ea', h1, e2, h2⟩ := get i hi
        rw [ea] at ea'
        cases ea'
        have ar2 : Arr (RI fun j => intV ((listAt H2 ps i).getD j .non)) L.length vs H2 := ⟨h2.1, fun j u eu => by
          obtain ⟨r, rfl, hr⟩ := h2.2 j u eu
          show V.int r = V.int (intV ((listAt H2 ps i).getD j .non))
          rw [e2]
          simp only [List.getD, eu]
          rfl⟩
        rw [h1, arr_rowI ar2]
end
end KW
end

section
set_option Elab.async false
set_option linter.all false
set_option maxRecDepth 100000
set_option maxHeartbeats 4000000
set_option exponentiation.threshold 100000
namespace KW
open PySem PySem.Spec PyProof.Rows L2 K38
section
variable {P : Program} {w : World} {K : PySem.W.Frag} {mg : Str → Option Value} {base : Heap} {C : Addr}
/-- as lcN, any target -/
theorem lcT {J : It} {n : Nat} {it : Nat → V} {g : TG} {te : TE} {vs : List Nat} {σ : L2.St} {H1 : Hp} {Q : VK} (S : Src J n it H1) (hn : n ≤ 100000) {R : Rep} (hR : RNL R)
    (hs : ∀ i H, i < n → Same H1 H → ∀ Qk : VK, (∀ y H', Same H H' → R i y H' → Qk y H') → g (it i) (wipe σ vs) H fun σ2 H2 => wipe σ2 vs = wipe σ vs ∧ te σ2 H2 Qk)
    (hd : ∀ D H ys, Same H1 H → H1 D = none → H D = some (.lst ys) → Arr R n ys H → Q (.ref D) H) : LcG J g tYes te vs σ H1 Q := by
  refine lc_inv S hn (fun i D acc H => Arr R i acc H) (fun D hD => Arr.nil) ?_ (fun D acc H hD hA sm hl p => hd D H acc sm hD hA p)
  intro i D acc H hi hD hA sm hl p Nx hN
  refine hs i H hi sm (fun y H4 => ∃ acc, H4 D = some (.lst acc) ∧ acc.length < sizeLine ∧ Nx (upd H4 D (.lst (acc ++ [y])))) fun y H' sm' r => ?_
  have hA' := sm' _ _ hA
  refine ⟨acc, hA', Nat.lt_of_le_of_lt hl (Nat.lt_of_lt_of_le hi (Nat.le_trans hn (by decide))), ?_⟩
  have nl : NL H' (upd H' D (.lst (acc ++ [y]))) := NL.upd hA'
  refine hN _ _ upd_same (Same.upd' (sm.trans sm') hD) ?_ ((p.nl hR ((NL.of sm').trans nl)).snoc (hR _ _ _ _ nl r))
  rw [List.length_append]; show _ + 1 ≤ _; omega
theorem yes_go {te : TE} {σ : L2.St} {H : Hp} {k : VK} {N : Hp → Prop} (h : te σ H k) : tYes σ H (fun b H3 => if b = true then te σ H3 k else N H3) := h
abbrev s_told_points : Stmt := top 48
abbrev N_told_points : List Str := ["_law_state_here", "_law_corners", "_law_chosen", "_law_left", "_law_places", "_law_k", "_law_x", "_law_a", "_law_b", "_law_c"]
theorem sc_told_points : FnScope N_told_points ["_law_state_here"] (defScope s_told_points) := ⟨rfl, rfl, rfl, by decide +kernel, rfl, by decide +kernel, by decide +kernel⟩
def corner : Nat → Pt
  | 0 => (0, 0, 0)
  | 1 => (3, 0, 0)
  | 2 => (0, 4, 0)
  | _ => (3, 4, 0)
def raised (a : Pt) : Pt := (a.1, a.2.1, if a.2.1 = 0 ∧ a.1 = 0 then 12 else 0)
theorem ptok_map {G : List Int} {N : Nat} (cf : Nat → Pt) (h1 : 1 ≤ G.length) (h5 : G.length ≤ 5) (nd : G.Nodup) (rg : ∀ x ∈ G, 0 ≤ x ∧ x < (N : Int)) (inj : ∀ a, a < N → ∀ b, b < N → cf a = cf b → a = b)
    (bd : ∀ a, a < N → (cf a).1.natAbs ≤ 20 ∧ (cf a).2.1.natAbs ≤ 20 ∧ (cf a).2.2.natAbs ≤ 20) : PtOk (G.map fun x => cf x.toNat) := by
  refine ⟨by rw [List.length_map]; exact h1, by rw [List.length_map]; exact h5, ?_, fun a ha => ?_⟩
  · refine List.pairwise_map.mpr ?_
    refine List.Pairwise.imp_of_mem (fun {a b} ha hb hne e => ?_) nd
    have ra := rg a ha
    have rb := rg b hb
    have := inj _ (by omega) _ (by omega) e
    exact hne (by omega)
  · obtain ⟨x, hx, rfl⟩ := List.mem_map.mp ha
    have := rg x hx
    exact bd _ (by omega)
theorem told_pts {L : List Pt} {n : Nat} {v : V} {H : Hp} (e : L.length = n) (h : LstA (RPt L) n v H) : LstA (RPt L) L.length v H := by rw [e]; exact h
theorem ok_told {f fT fO : Addr} {fd fdT fdO : FuncData} (F : Fun K "_law_told_points" "_law_told_points" s_told_points f fd) (B : NM mg) (G_take : FnAt P w K mg base CX0 2 "_law_take" fT fdT ["_law_state_here", "_law_m"] [] spTake)
    (G_order_of : FnAt P w K mg base CX0 4 "_law_order_of" fO fdO ["_law_state_here", "_law_n"] [] spOrder) : FnOk P w K mg base CX0 6 f fd ["_law_state_here"] spTold := by
  refine F.ok sc_told_points (fun vs H Q E h => ?_) (fun cdv A outer s H vs Q E hr h => ?_)
  · obtain ⟨st, rfl, _⟩ := h
    rfl
  · obtain ⟨st, rfl, hst, q⟩ := h
    refine ⟨_, (pss_cons (ps_if (pt_cmpR op_eq (pe_call G_take.ok (hr.mono (by decide)) rfl G_take.mgf G_take.kp G_take.b .nil pass0 (pa_cons (pv 0) (pa_cons pe_int pa_nil))) pe_int (nomark _)) (pss_cons (ps_set (i := 1) sc_told_points.nd rfl (Or.inr rfl) (pe_lst (pa_cons (pe_tup (pa_cons pe_int (pa_cons pe_int (pa_cons pe_int pa_nil)))) (pa_cons (pe_tup (pa_cons pe_int (pa_cons pe_int (pa_cons pe_int pa_nil)))) (pa_cons (pe_tup (pa_cons pe_int (pa_cons pe_int (pa_cons pe_int pa_nil)))) (pa_cons (pe_tup (pa_cons pe_int (pa_cons pe_int (pa_cons pe_int pa_nil)))) (pa_cons (pe_tup (pa_cons pe_int (pa_cons pe_int (pa_cons pe_int pa_nil)))) (pa_cons (pe_tup (pa_cons pe_int (pa_cons pe_int (pa_cons pe_int pa_nil)))) (pa_cons (pe_tup (pa_cons pe_int (pa_cons pe_int (pa_cons pe_int pa_nil)))) (pa_cons (pe_tup (pa_cons pe_int (pa_cons (pe_un un_neg pe_int) (pa_cons pe_int pa_nil)))) pa_nil))))))))))
  (pss_cons (slcG (ps_setLc (i := 2) (own := [("_law_x", 6)]) (g := gName 6) rfl sc_told_points.nd rfl rfl (sw_true rfl rfl rfl (by decide +kernel)) (pi_list (pe_slice sl_list (pe_call G_order_of.ok (hr.mono (by decide)) rfl G_order_of.mgf G_order_of.kp G_order_of.b .nil pass0 (pa_cons (pv 0) (pa_cons pe_int pa_nil))) po_none (po_some (pe_op op_add pe_int (pe_call G_take.ok (hr.mono (by decide)) rfl G_take.mgf G_take.kp G_take.b .nil pass0 (pa_cons (pv 0) (pa_cons pe_int pa_nil))))))) (blkOk_by (own := [("_law_x", 6)]) (N := N_told_points) (sc := defScope s_told_points) (by decide +kernel)) (fun _ _ _ _ _ => (pg_name (i := 6) sc_told_points.nd rfl (Or.inl rfl))) (fun _ _ _ _ _ => pts_nil) (fun _ _ _ _ _ => (pe_ix (ix_listK K rfl) (pv 1) (pv 6) (fun _ _ => rfl)))))
  (pss_one (ps_ret (pe_ifExp (pt_cmpR op_eq (pe_call G_take.ok (hr.mono (by decide)) rfl G_take.mgf G_take.kp G_take.b .nil pass0 (pa_cons (pv 0) (pa_cons pe_int pa_nil))) pe_int (nomark _)) (pv 2) (lcG (pe_lc (own := [("_law_a", 7), ("_law_b", 8), ("_law_c", 9)]) rfl sc_told_points.nd (pi_list (pv 2)) (blkOk_by (own := [("_law_a", 7), ("_law_b", 8), ("_law_c", 9)]) (N := N_told_points) (sc := defScope s_told_points) (by decide +kernel)) (fun _ _ _ _ _ => (tupK K rfl (pg_tup (n := 3) rfl (pgs_cons (pg_name (i := 7) sc_told_points.nd rfl (Or.inl rfl)) (pgs_cons (pg_name (i := 8) sc_told_points.nd rfl (Or.inl rfl)) (pgs_cons (pg_name (i := 9) sc_told_points.nd rfl (Or.inl rfl)) pgs_nil)))))) (fun _ _ _ _ _ => pts_nil) (fun _ _ _ _ _ => (pe_tup (pa_cons (pv 7) (pa_cons (pv 8) (pa_cons (pe_op op_mul pe_int (pe_callTy call_int1 (by rfl) B.int (by decide +kernel) (pa_cons (pe_and (pe_cmpR op_eq (pv 8) pe_int (nomark _)) (pe_one (pe_cmpR op_eq (pv 7) pe_int (nomark _)))) pa_nil))) pa_nil)))))))))))) pss_nil)
  (pss_cons (ps_set (i := 3) sc_told_points.nd rfl (Or.inr rfl) (pe_listRg rfl rfl B.list (prg_1 rfl B.range pe_int)))
  (pss_cons (slcG (ps_setLc (i := 4) (own := [("_law_k", 5)]) (g := gName 5) rfl sc_told_points.nd rfl rfl (sw_true rfl rfl rfl (by decide +kernel)) (pi_range1 rfl B.range (pa_cons (pe_op op_add pe_int (pe_call G_take.ok (hr.mono (by decide)) rfl G_take.mgf G_take.kp G_take.b .nil pass0 (pa_cons (pv 0) (pa_cons pe_int pa_nil)))) pa_nil)) (blkOk_by (own := [("_law_k", 5)]) (N := N_told_points) (sc := defScope s_told_points) (by decide +kernel)) (fun _ _ _ _ _ => (pg_name (i := 5) sc_told_points.nd rfl (Or.inl rfl))) (fun _ _ _ _ _ => pts_nil) (fun _ _ _ _ _ => (bmK K rfl (pe_bm PySem.F.plainAttrs_list PySem.F.slot_list_pop PySem.F.type_list_pop mt_popAt (pv 3) (pa_cons (pe_call G_take.ok (hr.mono (by decide)) rfl G_take.mgf G_take.kp G_take.b .nil pass0 (pa_cons (pv 0) (pa_cons (pe_callB (call_lenK K rfl) (by rfl) B.len (by decide +kernel) (pa_cons (pv 3) pa_nil)) pa_nil))) pa_nil))))))
  (pss_one (ps_ret (lcG (pe_lc (own := [("_law_x", 6)]) (g := gName 6) rfl sc_told_points.nd (pi_list (pv 4)) (blkOk_by (own := [("_law_x", 6)]) (N := N_told_points) (sc := defScope s_told_points) (by decide +kernel)) (fun _ _ _ _ _ => (pg_name (i := 6) sc_told_points.nd rfl (Or.inl rfl))) (fun _ _ _ _ _ => pts_nil) (fun _ _ _ _ _ => (pe_tup (pa_cons (pe_op op_mul pe_int (pv 6)) (pa_cons (pv 6) (pa_cons (pe_op op_mul pe_int (pv 6)) pa_nil)))))))))))), ?_⟩
    refine ⟨_, rfl, st, _, rfl, hst, by decide, by decide, fun v0 H0 _ _ s0 => ⟨rfl, _, rfl, bin2 (fun _ => ?_) fun _ => ?_⟩⟩
    · refine ⟨(by show 3 ≤ sizeLine; decide), fun t0 f0 => ⟨(by show 3 ≤ sizeLine; decide), fun t1 f1 => ⟨(by show 3 ≤ sizeLine; decide), fun t2 f2 => ⟨(by show 3 ≤ sizeLine; decide), fun t3 f3 => ⟨(by show 3 ≤ sizeLine; decide), fun t4 f4 => ⟨(by show 3 ≤ sizeLine; decide), fun t5 f5 => ⟨(by show 3 ≤ sizeLine; decide), fun t6 f6 => ⟨_, rfl, (by show 3 ≤ sizeLine; decide), fun t7 f7 => ⟨(by show 8 ≤ sizeLine; decide), fun l fl => ?_⟩⟩⟩⟩⟩⟩⟩⟩⟩
      have sl := Same.upd fl (o := .lst [.ref t0, .ref t1, .ref t2, .ref t3, .ref t4, .ref t5, .ref t6, .ref t7])
      have s7 := (Same.upd f7 (o := .tup [.int 0, .int (-4), .int 0])).trans sl
      have s6 := (Same.upd f6 (o := .tup [.int 0, .int 8, .int 0])).trans s7
      have s5 := (Same.upd f5 (o := .tup [.int 6, .int 0, .int 0])).trans s6
      have s4 := (Same.upd f4 (o := .tup [.int 0, .int 0, .int 12])).trans s5
      have s3 := (Same.upd f3 (o := .tup [.int 3, .int 4, .int 0])).trans s4
      have s2 := (Same.upd f2 (o := .tup [.int 0, .int 4, .int 0])).trans s3
      have s1 := (Same.upd f1 (o := .tup [.int 3, .int 0, .int 0])).trans s2
      have s00 := (Same.upd f0 (o := .tup [.int 0, .int 0, .int 0])).trans s1
      have h0 := s1 _ _ upd_same
      have h1 := s2 _ _ upd_same
      have h2 := s3 _ _ upd_same
      have h3 := s4 _ _ upd_same
      have hl := upd_same (H := upd (upd (upd (upd (upd (upd (upd (upd H0 t0 (.tup [.int 0, .int 0, .int 0])) t1 (.tup [.int 3, .int 0, .int 0])) t2 (.tup [.int 0, .int 4, .int 0])) t3 (.tup [.int 3, .int 4, .int 0])) t4 (.tup [.int 0, .int 0, .int 12])) t5 (.tup [.int 6, .int 0, .int 0])) t6 (.tup [.int 0, .int 8, .int 0])) t7 (.tup [.int 0, .int (-4), .int 0])) (a := l) (o := .lst [.ref t0, .ref t1, .ref t2, .ref t3, .ref t4, .ref t5, .ref t6, .ref t7])
      have f00 : H0 l = none := (Same.trans (Same.upd f0) ((Same.upd f1).trans ((Same.upd f2).trans ((Same.upd f3).trans ((Same.upd f4).trans ((Same.upd f5).trans ((Same.upd f6).trans (Same.upd f7)))))))).free fl
      revert s00 h0 h1 h2 h3 hl
      generalize upd (upd (upd (upd (upd (upd (upd (upd (upd H0 t0 (.tup [.int 0, .int 0, .int 0])) t1 (.tup [.int 3, .int 0, .int 0])) t2 (.tup [.int 0, .int 4, .int 0])) t3 (.tup [.int 3, .int 4, .int 0])) t4 (.tup [.int 0, .int 0, .int 12])) t5 (.tup [.int 6, .int 0, .int 0])) t6 (.tup [.int 0, .int 8, .int 0])) t7 (.tup [.int 0, .int (-4), .int 0])) l (.lst [.ref t0, .ref t1, .ref t2, .ref t3, .ref t4, .ref t5, .ref t6, .ref t7]) = Hc
      intro s00 h0 h1 h2 h3 hl
      have lst : l ≠ st := s0.2.ne f00
      have sc := s0.same s00
      refine ⟨_, rfl, st, 4, rfl, sc.2, by decide, by decide, fun o G H1 so fo ost ho lo nd rg => ?_⟩
      refine ⟨_, rfl, st, _, rfl, so.2, by decide, by decide, fun k H2 k0 k1 sk => ?_⟩
      refine ⟨_, _, rfl, rfl, _, rfl, o, _, rfl, SqL.of (sk.1 _ _ ost ho), fun u hu => ?_⟩
      have ek : cutV (G.map V.int) none (some (1 + k)) = (G.take (1 + k.toNat)).map V.int := by
        have e : (1 : Int) + k = ((1 + k.toNat : Nat) : Int) := by omega
        rw [e, cut_take _ (by rw [List.length_map]; omega), List.map_take]
      rw [ek]
      have su := Same.upd hu (o := .lst ((G.take (1 + k.toNat)).map V.int))
      have lG : (G.take (1 + k.toNat)).length = 1 + k.toNat := by rw [List.length_take]; omega
      have ndG : (G.take (1 + k.toNat)).Nodup := List.Nodup.sublist (List.take_sublist _ _) nd
      have rgG : ∀ x ∈ G.take (1 + k.toNat), 0 ≤ x ∧ x < ((4 : Nat) : Int) := fun x hx => rg x (List.mem_of_mem_take hx)
      have hl2 := su _ _ (sk.1 _ _ lst (so.1 _ _ lst hl))
      have tn : ∀ {t : Addr} {xs : List V}, Hc t = some (.tup xs) → upd H2 u (.lst ((G.take (1 + k.toNat)).map V.int)) t = some (.tup xs) := fun {t xs} h => su _ _ (sk.nl so.2 _ _ (so.nl sc.2 _ _ h (fun _ z => by cases z)) (fun _ z => by cases z))
      have g0 := tn h0
      have g1 := tn h1
      have g2 := tn h2
      have g3 := tn h3
      have ss := ((sc.trans so).trans sk).same su
      have src := src_list (K := K) (H1 := upd H2 u (.lst ((G.take (1 + k.toNat)).map V.int))) (a := u) (SqL.of upd_same)
      rw [List.length_map, lG] at src
      generalize G.take (1 + k.toNat) = G' at *
      refine ⟨u, rfl, ⟨_, SqL.of upd_same⟩, ?_⟩
      refine lcN src (by omega) (R := RPt (G'.map fun x => corner x.toNat)) RPt.rnl (by exact fun _ => rfl) ?_ ?_
      · intro i Hi hi si Qk hq
        have hi' : i < G'.length := by omega
        have ev : (G'.map V.int).getD i .non = .int G'[i] := by
          simp only [List.getD, List.getElem?_map, List.getElem?_eq_getElem hi']
          rfl
        have eL : (G'.map fun x => corner x.toNat)[i]? = some (corner (G'[i]).toNat) := by rw [List.getElem?_map, List.getElem?_eq_getElem hi']; rfl
        have rx := rgG _ (List.getElem_mem hi')
        have hli := si _ _ hl2
        refine ⟨_, rfl, _, rfl, ?_⟩
        rcases (show G'[i] = 0 ∨ G'[i] = 1 ∨ G'[i] = 2 ∨ G'[i] = 3 by omega) with e | e | e | e
        · rw [e] at ev eL
          exact ⟨l, _, _, .ref t0, rfl, ev, SqL.of hli, (by exact rfl), hq _ _ (Same.refl _) ⟨t0, _, eL, rfl, si _ _ g0⟩⟩
        · rw [e] at ev eL
          exact ⟨l, _, _, .ref t1, rfl, ev, SqL.of hli, (by exact rfl), hq _ _ (Same.refl _) ⟨t1, _, eL, rfl, si _ _ g1⟩⟩
        · rw [e] at ev eL
          exact ⟨l, _, _, .ref t2, rfl, ev, SqL.of hli, (by exact rfl), hq _ _ (Same.refl _) ⟨t2, _, eL, rfl, si _ _ g2⟩⟩
        · rw [e] at ev eL
          exact ⟨l, _, _, .ref t3, rfl, ev, SqL.of hli, (by exact rfl), hq _ _ (Same.refl _) ⟨t3, _, eL, rfl, si _ _ g3⟩⟩
      · intro D1 H3 ys s3 hD0 hD1 ar
        have sD := ss.same s3
        have lM : ∀ c : Nat → Pt, (G'.map fun x => c x.toNat).length = 1 + k.toNat := fun c => by rw [List.length_map]; exact lG
        refine ⟨_, rfl, st, _, rfl, sD.2, by decide, by decide, fun z H4 z0 z1 s4 => ⟨rfl, _, rfl, bin2 (fun _ => ?_) fun _ => ?_⟩⟩
        · refine ⟨_, rfl, q _ _ _ (sD.trans s4) (ptok_map corner (by omega) (by omega) ndG rgG (by decide) (by decide)) (told_pts (lM _) ⟨D1, ys, rfl, ?_, ar.nl RPt.rnl (s4.nl sD.2)⟩)⟩
          exact s4.1 _ _ (fun e => by
            obtain ⟨x, y, hx, _⟩ := ss.2
            rw [← e, hD0] at hx; cases hx) hD1
        · have hD4 : H4 D1 = some (.lst ys) := s4.1 _ _ (fun e => by
            obtain ⟨x, y, hx, _⟩ := ss.2
            rw [← e, hD0] at hx; cases hx) hD1
          have ar4 := ar.nl RPt.rnl (s4.nl sD.2)
          have src4 := src_list (K := K) (H1 := H4) (a := D1) (xs := ys) (SqL.of hD4)
          rw [ar4.1] at src4
          refine ⟨_, rfl, D1, rfl, ⟨_, SqL.of hD4⟩, ?_⟩
          refine lcT src4 (by omega) (R := RPt (G'.map fun x => raised (corner x.toNat))) RPt.rnl ?_ ?_
          · intro i Hi hi si Qk hq
            obtain ⟨_, p, a, ea, ev, hp⟩ := ar4.item hi
            have hp' := si _ _ hp
            have eL : (G'.map fun x => raised (corner x.toNat))[i]? = some (raised a) := by
              rw [List.getElem?_map] at ea ⊢
              obtain ⟨x, ex, rfl⟩ := Option.map_eq_some_iff.mp ea
              rw [ex]
              rfl
            refine ⟨p, _, ev, SqT.of hp', rfl, _, _, rfl, _, _, rfl, _, _, rfl, rfl, rfl, ?_⟩
            refine ⟨_, rfl, _, rfl, _, rfl, rfl, _, rfl, bin2 (fun hb => ?_) fun hb => ?_⟩
            · refine ⟨_, rfl, rfl, .inr ⟨_, rfl, _, _, rfl, rfl, .inl ⟨by decide, by decide⟩, (by show 3 ≤ sizeLine; decide), fun t ht => ?_⟩⟩
              refine hq _ _ (Same.upd ht) ⟨t, _, eL, rfl, ?_⟩
              have hb' : a.2.1 = 0 := by injection hb
              have e2 : (12 : Int) * (if decide (V.int a.1 = V.int 0) = true then 1 else 0) = (raised a).2.2 := by
                show _ = (if a.2.1 = 0 ∧ a.1 = 0 then (12 : Int) else 0)
                by_cases h0 : a.1 = 0
                · rw [if_pos (show decide (V.int a.1 = V.int 0) = true from decide_eq_true (by rw [h0])), if_pos ⟨hb', h0⟩]; rfl
                · rw [if_neg (show ¬ decide (V.int a.1 = V.int 0) = true by rw [decide_eq_true_eq]; exact fun z => h0 (by injection z)), if_neg (fun (z : a.2.1 = 0 ∧ a.1 = 0) => h0 z.2)]; rfl
              rw [← e2]
              exact upd_same
            · refine .inr ⟨_, rfl, _, _, rfl, rfl, .inl ⟨by decide, by decide⟩, (by show 3 ≤ sizeLine; decide), fun t ht => ?_⟩
              refine hq _ _ (Same.upd ht) ⟨t, _, eL, rfl, ?_⟩
              have e2 : (12 : Int) * (if false = true then 1 else 0) = (raised a).2.2 := by
                show _ = (if a.2.1 = 0 ∧ a.1 = 0 then (12 : Int) else 0)
                rw [if_neg (fun (z : a.2.1 = 0 ∧ a.1 = 0) => hb (by rw [z.1]))]
                rfl
              rw [← e2]
              exact upd_same
          · intro D2 H5 zs s5 hE0 hE1 ar5
            exact q _ _ _ ((sD.trans s4).same s5) (ptok_map (fun n => raised (corner n)) (by omega) (by omega) ndG rgG (by decide) (by decide)) (told_pts (lM fun n => raised (corner n)) ⟨D2, zs, rfl, hE1, ar5⟩)
    · refine ⟨_, rfl, RgOk.of_le (by decide) (by decide) (by decide) (by decide), fun l hl => ?_⟩
      have e9 : rgV 0 9 = ([0, 1, 2, 3, 4, 5, 6, 7, 8] : List Int).map V.int := by decide +kernel
      have lst : l ≠ st := s0.2.ne hl
      have s1 : SE st H0 (upd H0 l (.lst (rgV 0 9))) := (SE.refl s0.2).upd hl lst
      have h1 : upd H0 l (.lst (rgV 0 9)) l = some (.lst (([0, 1, 2, 3, 4, 5, 6, 7, 8] : List Int).map V.int)) := by rw [upd_same, e9]
      generalize upd H0 l (.lst (rgV 0 9)) = H1 at *
      refine ⟨_, rfl, st, _, rfl, s1.2, by decide, by decide, fun k H2 k0 k1 sk => ?_⟩
      refine ⟨_, _, rfl, rfl, _, rfl, by omega, by omega, fun D hD => ?_⟩
      have h2 := sk.1 _ _ lst h1
      have Dst : D ≠ st := sk.2.ne hD
      have lD : l ≠ D := ne_of_none h2 hD
      have hD0 : H0 D = none := (s1.trans sk).free hD
      refine lc_range (lo := 0) (n := (1 + k).toNat) (fun i H' => ∃ (L G : List Int), SE st H0 H' ∧ H' l = some (.lst (L.map V.int)) ∧ H' D = some (.lst (G.map V.int)) ∧ G.length = i ∧ L.length = 9 - i ∧ (G ++ L).Nodup ∧ ∀ x ∈ G ++ L, 0 ≤ x ∧ x < (9 : Int))
        ⟨[0, 1, 2, 3, 4, 5, 6, 7, 8], [], (s1.trans sk).upd hD0 Dst, by rw [upd_ne lD]; exact h2, upd_same, rfl, rfl, by decide, by decide⟩ ?_ ?_
      · rintro i H' hi ⟨L, G, s3, hL, hG, e1, e2, nd, rg⟩
        have hLpos : 0 < L.length := by omega
        refine ⟨rfl, ?_⟩
        refine yes_go ?_
        refine ⟨_, rfl, .inl ⟨rfl, _, SqL.of hL⟩, _, rfl, _, rfl, _, _, rfl, .inl (SqL.of hL), ?_⟩
        refine ⟨st, _, rfl, s3.2, by rw [List.length_map]; omega, by rw [List.length_map]; omega, fun y H3 y0 y1 s4 => ?_⟩
        rw [List.length_map] at y1
        have k1' := s4.1 _ _ lst hL
        have k2' := s4.1 _ _ Dst hG
        have hy : y.toNat < L.length := by omega
        refine ⟨l, L.map V.int, y, y.toNat, V.int (L[y.toNat]), rfl, rfl, k1', by omega, by omega, seqIndex_of y0 (by rw [List.length_map]; omega), by simp [hy], ?_⟩
        have pp := perm_pop G L (List.getElem?_eq_getElem hy)
        refine ⟨G.map V.int, by rw [upd_ne lD.symm]; exact k2', by rw [List.length_map]; exact Nat.lt_of_lt_of_le (show G.length < 17 by omega) (by decide), L.eraseIdx y.toNat, G ++ [L[y.toNat]], ?_, ?_, ?_, ?_, ?_, ?_, ?_⟩
        · exact ((s3.trans s4).upd hl lst).upd hD0 Dst
        · rw [upd_ne lD, upd_same, erase_map]
        · rw [upd_same, List.map_append]; rfl
        · rw [List.length_append, e1]; rfl
        · rw [List.length_eraseIdx_of_lt hy]; omega
        · exact pp.nodup_iff.mpr nd
        · intro x hx
          exact rg x (pp.mem_iff.mp hx)
      · rintro H' ⟨L, G, s3, hL, hG, e1, e2, nd, rg⟩
        have lG : G.length = 1 + k.toNat := by omega
        have ndG := (List.nodup_append.mp nd).1
        have rgG : ∀ x ∈ G, 0 ≤ x ∧ x < ((9 : Nat) : Int) := fun x hx => rg x (List.mem_append_left _ hx)
        have src := src_list (K := K) (H1 := H') (a := D) (SqL.of hG)
        rw [List.length_map] at src
        refine ⟨_, rfl, D, rfl, ⟨_, SqL.of hG⟩, ?_⟩
        let cf : Nat → Pt := fun n => (2 * (n : Int), (n : Int), 2 * (n : Int))
        have lM : (G.map fun x => cf x.toNat).length = G.length := by rw [List.length_map]
        refine lcN src (by omega) (R := RPt (G.map fun x => cf x.toNat)) RPt.rnl (by exact fun _ => rfl) ?_ ?_
        · intro i Hi hi si Qk hq
          have ev : (G.map V.int).getD i .non = .int G[i] := by
            simp only [List.getD, List.getElem?_map, List.getElem?_eq_getElem hi]
            rfl
          have eL : (G.map fun x => cf x.toNat)[i]? = some (cf (G[i]).toNat) := by rw [List.getElem?_map, List.getElem?_eq_getElem hi]; rfl
          have rx := rgG _ (List.getElem_mem hi)
          have ex : (((G[i]).toNat : Nat) : Int) = G[i] := by omega
          refine ⟨_, rfl, _, _, rfl, ev, .inl ⟨by decide, by decide⟩, _, rfl, _, rfl, _, _, rfl, ev, .inl ⟨by decide, by decide⟩, (by show 3 ≤ sizeLine; decide), fun t ht => ?_⟩
          refine hq _ _ (Same.upd ht) ⟨t, _, eL, rfl, ?_⟩
          show upd Hi t _ t = some (.tup [.int (2 * (((G[i]).toNat : Nat) : Int)), .int (((G[i]).toNat : Nat) : Int), .int (2 * (((G[i]).toNat : Nat) : Int))])
          rw [ex, upd_same, ev]
        · intro D2 H5 zs s5 hE0 hE1 ar5
          refine q _ _ _ ((s0.trans s3).same s5) (ptok_map (N := 9) cf (by omega) (by omega) ndG rgG (fun a _ b _ e => ?_) (fun a ha => ?_)) (told_pts lM ⟨D2, zs, rfl, hE1, ar5⟩)
          · have := congrArg (fun p : Pt => p.2.1) e
            have : (a : Int) = (b : Int) := this
            omega
          · show (2 * (a : Int)).natAbs ≤ 20 ∧ ((a : Int)).natAbs ≤ 20 ∧ (2 * (a : Int)).natAbs ≤ 20
            omega
end
end KW
end

section
set_option Elab.async false
set_option linter.all false
set_option maxRecDepth 100000
set_option maxHeartbeats 4000000
set_option exponentiation.threshold 100000
namespace KW
open PySem PySem.Spec PyProof.Rows L2 K38
section
variable {P : Program} {w : World} {K : PySem.W.Frag} {mg : Str → Option Value} {base : Heap} {C : Addr}
/-! ### a table of ints that is changed by place -/
theorem rowI_congr {n : Nat} {f g : Nat → Int} (h : ∀ j, j < n → f j = g j) : rowI n f = rowI n g := by
  unfold rowI
  exact List.map_congr_left fun j hj => by rw [h j (List.mem_range.mp hj)]
theorem rowI_set {n : Nat} (f : Nat → Int) {j : Nat} (v : Int) : (rowI n f).set j (.int v) = rowI n (fun b => if b = j then v else f b) := by
  refine List.ext_getElem? fun i => ?_
  rw [List.getElem?_set]
  rcases Nat.lt_or_ge i n with l | l
  · rw [rowI_get l, rowI_get l]
    by_cases e : j = i
    · subst e
      rw [if_pos rfl, if_pos rfl, if_pos (by rw [rowI_len]; exact l)]
    · rw [if_neg e, if_neg (fun z => e z.symm)]
  · rw [List.getElem?_eq_none (by rw [rowI_len]; exact l), List.getElem?_eq_none (by rw [rowI_len]; exact l)]
    split
    · rw [if_neg (by rw [rowI_len]; omega)]
    · rfl
def setM (M : Mi) (i j : Nat) (v : Int) : Mi := fun a b => if a = i ∧ b = j then v else M a b
structure MatL (H : Hp) (r : Addr) (ps : List Addr) (n : Nat) (M : Mi) : Prop where
  out : H r = some (.lst (ps.map V.ref))
  len : ps.length = n
  nd : ps.Nodup
  ne : r ∉ ps
  row : ∀ (i : Nat) (p : Addr), ps[i]? = some p → H p = some (.lst (rowI n (M i)))
theorem MatL.get {H : Hp} {r : Addr} {ps : List Addr} {n : Nat} {M : Mi} (h : MatL H r ps n M) {i : Nat} (hi : i < n) : ∃ p, ps[i]? = some p ∧ (ps.map V.ref)[i]? = some (.ref p) ∧ H p = some (.lst (rowI n (M i))) := by
  have hi' : i < ps.length := by rw [h.len]; exact hi
  refine ⟨ps[i], List.getElem?_eq_getElem hi', by rw [List.getElem?_map, List.getElem?_eq_getElem hi']; rfl, h.row i _ (List.getElem?_eq_getElem hi')⟩
theorem MatL.congr {H : Hp} {r : Addr} {ps : List Addr} {n : Nat} {M M' : Mi} (h : MatL H r ps n M) (e : ∀ a b, a < n → b < n → M a b = M' a b) : MatL H r ps n M' :=
  ⟨h.out, h.len, h.nd, h.ne, fun i p hp => by
    have hi : i < n := by rw [← h.len]; exact (List.getElem?_eq_some_iff.mp hp).1
    rw [h.row i p hp, rowI_congr fun j hj => e i j hi hj]⟩
theorem MatL.keep {H H' : Hp} {r : Addr} {ps : List Addr} {n : Nat} {M : Mi} (h : MatL H r ps n M) (k : ∀ b o, (b = r ∨ b ∈ ps) → H b = some o → H' b = some o) : MatL H' r ps n M :=
  ⟨k _ _ (.inl rfl) h.out, h.len, h.nd, h.ne, fun i p hp => k _ _ (.inr (List.mem_of_getElem? hp)) (h.row i p hp)⟩
theorem MatL.put {H : Hp} {r : Addr} {ps : List Addr} {n : Nat} {M : Mi} (h : MatL H r ps n M) {i j : Nat} {p : Addr} (hp : ps[i]? = some p) (v : Int) : MatL (upd H p (.lst ((rowI n (M i)).set j (.int v)))) r ps n (setM M i j v) := by
  have hpm := List.mem_of_getElem? hp
  refine ⟨by rw [upd_ne (fun z => h.ne (by rw [z]; exact hpm))]; exact h.out, h.len, h.nd, h.ne, fun k q hq => ?_⟩
  by_cases e : k = i
  · subst e
    rw [hp] at hq
    cases hq
    rw [upd_same, rowI_set]
    refine congrArg (fun l => some (HO.lst l)) (rowI_congr fun b _ => ?_)
    unfold setM
    by_cases hb : b = j
    · rw [if_pos hb, if_pos ⟨rfl, hb⟩]
    · rw [if_neg hb, if_neg (fun z => hb z.2)]
  · have qp : q ≠ p := fun z => by
      subst z
      exact e (nd_ix h.nd hq hp)
    rw [upd_ne qp, h.row k q hq]
    refine congrArg (fun l => some (HO.lst l)) (rowI_congr fun b _ => ?_)
    unfold setM
    rw [if_neg (fun z => e z.1)]
/-- a table made after H0, no draws -/
structure MatF (H0 H : Hp) (r : Addr) (ps : List Addr) (n : Nat) (M : Mi) : Prop extends MatL H r ps n M where
  same : Same H0 H
  fr : H0 r = none
  frs : ∀ p ∈ ps, H0 p = none
theorem MatF.putF {H0 H : Hp} {r : Addr} {ps : List Addr} {n : Nat} {M : Mi} (h : MatF H0 H r ps n M) {i j : Nat} {p : Addr} (hp : ps[i]? = some p) (v : Int) : MatF H0 (upd H p (.lst ((rowI n (M i)).set j (.int v)))) r ps n (setM M i j v) :=
  { toMatL := h.toMatL.put hp v, same := Same.upd' h.same (h.frs p (List.mem_of_getElem? hp)), fr := h.fr, frs := h.frs }
theorem MatF.congr' {H0 H : Hp} {r : Addr} {ps : List Addr} {n : Nat} {M M' : Mi} (h : MatF H0 H r ps n M) (e : ∀ a b, a < n → b < n → M a b = M' a b) : MatF H0 H r ps n M' :=
  { toMatL := h.toMatL.congr e, same := h.same, fr := h.fr, frs := h.frs }
/-- a table made after H0, among draws -/
structure MatS (st : Addr) (H0 H : Hp) (r : Addr) (ps : List Addr) (n : Nat) (M : Mi) : Prop extends MatL H r ps n M where
  se : SE st H0 H
  fr : H0 r = none
  frs : ∀ p ∈ ps, H0 p = none
  rst : r ≠ st
  pst : ∀ p ∈ ps, p ≠ st
theorem MatS.draw {st : Addr} {H0 H H' : Hp} {r : Addr} {ps : List Addr} {n : Nat} {M : Mi} (h : MatS st H0 H r ps n M) (s : SE st H H') : MatS st H0 H' r ps n M :=
  { toMatL := h.toMatL.keep (fun b o hb e => s.1 b o (by rcases hb with z | z; · rw [z]; exact h.rst
                                                         · exact h.pst b z) e), se := h.se.trans s, fr := h.fr, frs := h.frs, rst := h.rst, pst := h.pst }
theorem MatS.add {st : Addr} {H0 H H' : Hp} {r : Addr} {ps : List Addr} {n : Nat} {M : Mi} (h : MatS st H0 H r ps n M) (s : Same H H') : MatS st H0 H' r ps n M := h.draw (SE.of h.se.2 s)
theorem MatS.putS {st : Addr} {H0 H : Hp} {r : Addr} {ps : List Addr} {n : Nat} {M : Mi} (h : MatS st H0 H r ps n M) {i j : Nat} {p : Addr} (hp : ps[i]? = some p) (v : Int) : MatS st H0 (upd H p (.lst ((rowI n (M i)).set j (.int v)))) r ps n (setM M i j v) :=
  { toMatL := h.toMatL.put hp v, se := h.se.upd (h.frs p (List.mem_of_getElem? hp)) (h.pst p (List.mem_of_getElem? hp)), fr := h.fr, frs := h.frs, rst := h.rst, pst := h.pst }
theorem MatS.congr' {st : Addr} {H0 H : Hp} {r : Addr} {ps : List Addr} {n : Nat} {M M' : Mi} (h : MatS st H0 H r ps n M) (e : ∀ a b, a < n → b < n → M a b = M' a b) : MatS st H0 H r ps n M' :=
  { toMatL := h.toMatL.congr e, se := h.se, fr := h.fr, frs := h.frs, rst := h.rst, pst := h.pst }
/-- what a comprehension of lists of ints lays -/
theorem mat_of {H0 H : Hp} {D : Addr} {ps : List Addr} {n : Nat} {M : Mi} (s : Same H0 H) (h0 : H0 D = none) (hD : H D = some (.lst (ps.map V.ref))) (hl : ps.length = n) (hn : D ∉ ps) (hf : ∀ p ∈ ps, H0 p = none) (nl : NewL (fun i => RI (M i)) (fun _ => n) ps H) : MatF H0 H D ps n M :=
  { out := hD, len := hl, nd := nl.1, ne := hn, same := s, fr := h0, frs := hf, row := fun i p hp => by
      obtain ⟨vs, h1, h2⟩ := nl.2 i p hp
      rw [h1, arr_rowI h2] }
theorem MatF.toS {st : Addr} {H0 H : Hp} {r : Addr} {ps : List Addr} {n : Nat} {M : Mi} (h : MatF H0 H r ps n M) (o : StOk H0 st) : MatS st H0 H r ps n M :=
  { toMatL := h.toMatL, se := SE.of o h.same, fr := h.fr, frs := h.frs, rst := o.ne h.fr, pst := fun p hp => o.ne (h.frs p hp) }
/-! ### the shortest ways -/
def fwN (F : Mi) (k : Nat) : Mi := fun a b => if F a k + F k b < F a b then F a k + F k b else F a b
def Via (n k : Nat) (M : Mi) : Prop := ∀ c, c < k → ∀ x y, x < n → y < n → M x y ≤ M x c + M c y
def mix (F N : Mi) (x y : Nat) : Mi := fun a b => if a < x ∨ (a = x ∧ b < y) then N a b else F a b
theorem fw_row {n k : Nat} {F : Mi} (h : PreMet n F) (hk : k < n) : (∀ a, a < n → fwN F k a k = F a k) ∧ (∀ b, b < n → fwN F k k b = F k b) := by
  have z := h.zero k hk
  refine ⟨fun a ha => ?_, fun b hb => ?_⟩
  · unfold fwN
    rw [z]
    split <;> omega
  · unfold fwN
    rw [z]
    split <;> omega
theorem PreMet.nn {n : Nat} {F : Mi} (h : PreMet n F) {a b : Nat} (ha : a < n) (hb : b < n) : 0 ≤ F a b := by
  by_cases e : a = b
  · rw [e, h.zero b hb]
    decide
  · exact Int.le_of_lt (h.pos a b ha hb e)
theorem fw_next {n k : Nat} {F : Mi} (h : PreMet n F) (hk : k < n) (v : Via n k F) : PreMet n (fwN F k) ∧ Via n (k + 1) (fwN F k) := by
  have nn := fun a b (ha : a < n) (hb : b < n) => h.nn ha hb
  refine ⟨⟨fun x hx => ?_, fun x y hx hy => ?_, fun x y hx hy hne => ?_, fun x y hx hy => ?_⟩, fun c hc x y hx hy => ?_⟩
  · have := nn x k hx hk
    have := nn k x hk hx
    have z := h.zero x hx
    unfold fwN
    split <;> omega
  · have e1 := h.sy x y hx hy
    have e2 := h.sy x k hx hk
    have e3 := h.sy k y hk hy
    unfold fwN
    rw [e1, e2, e3, Int.add_comm]
  · have p := h.pos x y hx hy hne
    unfold fwN
    split
    · by_cases e : x = k
      · subst e
        have := h.zero x hx
        omega
      · have := h.pos x k hx hk e
        have := nn k y hk hy
        omega
    · exact p
  · have := h.big x y hx hy
    unfold fwN
    split <;> omega
  · by_cases e : c = k
    · subst e
      have r := fw_row h hk
      rw [r.1 x hx, r.2 y hy]
      unfold fwN
      split <;> omega
    · have hc' : c < k := by omega
      have hcn : c < n := by omega
      have v1 := v c hc' x y hx hy
      have v2 := v c hc' k y hk hy
      have v3 := v c hc' x k hx hk
      have n1 := nn k c hk hcn
      have n2 := nn c k hcn hk
      unfold fwN
      split <;> split <;> split <;> omega
theorem met_of {n : Nat} {F : Mi} (h : PreMet n F) (v : Via n n F) : IsMet n F := ⟨h.zero, h.sy, h.pos, h.big, fun x y z hx hy hz => v y hy x z hx hz⟩
theorem preMet_put {n : Nat} {M : Mi} (h : PreMet n M) {x z : Nat} {l : Int} (hne : x ≠ z) (h0 : 0 < l) (h1 : l ≤ 10000) : PreMet n (setM (setM M x z l) z x l) := by
  unfold setM
  refine ⟨fun a ha => ?_, fun a b ha hb => ?_, fun a b ha hb hab => ?_, fun a b ha hb => ?_⟩
  · show (if a = z ∧ a = x then l else if a = x ∧ a = z then l else M a a) = 0
    rw [if_neg (fun q => hne (q.2.symm.trans q.1)), if_neg (fun q => hne (q.1.symm.trans q.2))]
    exact h.zero a ha
  · show (if a = z ∧ b = x then l else if a = x ∧ b = z then l else M a b) = (if b = z ∧ a = x then l else if b = x ∧ a = z then l else M b a)
    by_cases c1 : a = z ∧ b = x
    · rw [if_pos c1]
      by_cases c2 : b = z ∧ a = x
      · rw [if_pos c2]
      · rw [if_neg c2, if_pos ⟨c1.2, c1.1⟩]
    · rw [if_neg c1]
      by_cases c2 : a = x ∧ b = z
      · rw [if_pos c2, if_pos ⟨c2.2, c2.1⟩]
      · rw [if_neg c2, if_neg (fun q => c2 ⟨q.2, q.1⟩), if_neg (fun q => c1 ⟨q.2, q.1⟩)]
        exact h.sy a b ha hb
  · show 0 < (if a = z ∧ b = x then l else if a = x ∧ b = z then l else M a b)
    have := h.pos a b ha hb hab
    split
    · exact h0
    · split
      · exact h0
      · exact this
  · show (if a = z ∧ b = x then l else if a = x ∧ b = z then l else M a b) ≤ 10000
    have := h.big a b ha hb
    split
    · exact h1
    · split
      · exact h1
      · exact this
end
end KW
end

section
set_option Elab.async false
set_option linter.all false
set_option maxRecDepth 100000
set_option maxHeartbeats 4000000
set_option exponentiation.threshold 100000
namespace KW
open PySem PySem.Spec PyProof.Rows L2 K38
section
variable {P : Program} {w : World} {K : PySem.W.Frag} {mg : Str → Option Value} {base : Heap} {C : Addr}
abbrev s_shortest : Stmt := top 33
abbrev N_shortest : List Str := ["_law_rows_here", "_law_n", "_law_found", "_law_k", "_law_x", "_law_y", "_law_row"]
theorem sc_shortest : FnScope N_shortest ["_law_rows_here"] (defScope s_shortest) := ⟨rfl, rfl, rfl, by decide +kernel, rfl, by decide +kernel, by decide +kernel⟩
theorem ixN_of {n j : Nat} (h : j < n) : ixN n (j : Int) = some j := by
  unfold ixN
  rw [if_pos (by omega), if_pos (by omega)]
  simp
theorem ok_short {f : Addr} {fd : FuncData} (F : Fun K "_law_shortest" "_law_shortest" s_shortest f fd) (B : NM mg) : FnOk P w K mg base CX0 2 f fd ["_law_rows_here"] spShort := by
  refine F.ok sc_shortest (fun vs H Q E h => ?_) (fun cdv A outer s H vs Q E hr h => ?_)
  · obtain ⟨r, ps, n, M, rfl, _⟩ := h
    rfl
  · obtain ⟨r, ps, n, M, rfl, hR, hl, row, n7, pre, q⟩ := h
    refine ⟨_, (pss_cons (ps_set (i := 1) sc_shortest.nd rfl (Or.inl rfl) (pe_callB call_len_seq (by rfl) B.len (by decide +kernel) (pa_cons (pv 0) pa_nil)))
  (pss_cons (slcG (ps_setLc (i := 2) (own := [("_law_row", 6)]) (g := gName 6) rfl sc_shortest.nd rfl rfl (sw_true rfl rfl rfl (by decide +kernel)) (pi_list (pv 0)) (blkOk_by (own := [("_law_row", 6)]) (N := N_shortest) (sc := defScope s_shortest) (by decide +kernel)) (fun _ _ _ _ _ => (pg_name (i := 6) sc_shortest.nd rfl (Or.inl rfl))) (fun _ _ _ _ _ => pts_nil) (fun _ _ _ _ _ => (pe_callTy (call_listK K rfl) (by rfl) B.list (by decide +kernel) (pa_cons (pv 6) pa_nil)))))
  (pss_cons (ps_for PassesOwn.never rfl (pi_range1 rfl B.range (pa_cons (pv 1) pa_nil)) (pg_name (i := 3) sc_shortest.nd rfl (Or.inl rfl))
  (pss_one (ps_for PassesOwn.never rfl (pi_range1 rfl B.range (pa_cons (pv 1) pa_nil)) (pg_name (i := 4) sc_shortest.nd rfl (Or.inl rfl))
  (pss_one (ps_for PassesOwn.never rfl (pi_range1 rfl B.range (pa_cons (pv 1) pa_nil)) (pg_name (i := 5) sc_shortest.nd rfl (Or.inl rfl))
  (pss_one (ps_asg (pe_callB (call_min2 rfl) (by rfl) B.min (by decide +kernel) (pa_cons (pe_ix ix_list (pe_ix ix_list (pv 2) (pv 4) (fun _ _ => rfl)) (pv 5) (fun _ _ => rfl)) (pa_cons (pe_op op_add (pe_ix ix_list (pe_ix ix_list (pv 2) (pv 4) (fun _ _ => rfl)) (pv 3) (fun _ _ => rfl)) (pe_ix ix_list (pe_ix ix_list (pv 2) (pv 3) (fun _ _ => rfl)) (pv 5) (fun _ _ => rfl))) pa_nil))) (pg_sub (pe_ix ix_list (pv 2) (pv 4) (fun _ _ => rfl)) (pv 5) set_list))))))))
  (pss_one (ps_ret (lcG (pe_lc (own := [("_law_row", 6)]) (g := gName 6) rfl sc_shortest.nd (pi_list (pv 2)) (blkOk_by (own := [("_law_row", 6)]) (N := N_shortest) (sc := defScope s_shortest) (by decide +kernel)) (fun _ _ _ _ _ => (pg_name (i := 6) sc_shortest.nd rfl (Or.inl rfl))) (fun _ _ _ _ _ => pts_nil) (fun _ _ _ _ _ => (pe_callTy (call_tupleK K rfl) (by rfl) B.tuple (by decide +kernel) (pa_cons (pv 6) pa_nil)))))))))), ?_⟩
    have hlm : (ps.map V.ref).length = n := by rw [List.length_map]; exact hl
    refine ⟨_, rfl, r, _, rfl, .inl (SqL.of hR), ?_⟩
    rw [hlm]
    have src := src_list (K := K) (H1 := H) (a := r) (SqL.of hR)
    rw [hlm] at src
    refine ⟨_, rfl, r, rfl, ⟨_, SqL.of hR⟩, ?_⟩
    refine lcL src (by omega) (R := fun i => RI (M i)) (m := fun _ => n) (fun i => RI.rnl) (by exact fun _ => rfl) ?_ ?_
    · intro i Hi hi si Qk hq
      have hi' : i < ps.length := by omega
      have eg : (ps.map V.ref).getD i .non = .ref ps[i] := by
        simp only [List.getD, List.getElem?_map, List.getElem?_eq_getElem hi']
        rfl
      have hrow := si _ _ (row i _ (List.getElem?_eq_getElem hi'))
      refine ⟨_, rfl, ps[i], _, (by rw [eg]), .inl (SqL.of hrow), fun l hl' => ?_⟩
      exact hq l _ _ (Same.upd hl') hl' upd_same rowI_arr
    · intro D H1 ps2 s1 hD0 hD1 hl1 hn1 hf1 nl
      have m0 : MatF H H1 D ps2 n M := mat_of s1 hD0 hD1 hl1 hn1 hf1 nl
      refine ⟨_, rfl, (n : Int), rfl, by omega, by omega, for_range (lo := 0) (n := (n : Int).toNat) (fun k σ H' => ∃ (M' : Mi) (a b c : Option V), σ = [some (.ref r), some (.int (n : Int)), some (.ref D), a, b, c, none] ∧ MatF H H' D ps2 n M' ∧ PreMet n M' ∧ Via n k M')
        ⟨M, none, none, none, rfl, m0, pre, fun c hc => absurd hc (by omega)⟩ ?_ ?_⟩
      · rintro k σ H' hk ⟨F', a, b, c, rfl, mF, preF, viaF⟩
        have hkn : k < n := by omega
        rw [Int.zero_add]
        have rc := fw_row preF hkn
        refine ⟨_, rfl, (n : Int), rfl, by omega, by omega, for_range (lo := 0) (n := (n : Int).toNat) (fun x σ H' => ∃ (b c : Option V), σ = [some (.ref r), some (.int (n : Int)), some (.ref D), some (.int (k : Int)), b, c, none] ∧ MatF H H' D ps2 n (mix F' (fwN F' k) x 0))
          ⟨b, c, rfl, mF.congr' fun a b _ _ => by unfold mix; rw [if_neg (by omega)]⟩ ?_ ?_⟩
        · rintro x σ H2 hx ⟨b, c, rfl, mx⟩
          have hxn : x < n := by omega
          rw [Int.zero_add]
          refine ⟨_, rfl, (n : Int), rfl, by omega, by omega, for_range (lo := 0) (n := (n : Int).toNat) (fun y σ H' => ∃ (c : Option V), σ = [some (.ref r), some (.int (n : Int)), some (.ref D), some (.int (k : Int)), some (.int (x : Int)), c, none] ∧ MatF H H' D ps2 n (mix F' (fwN F' k) x y))
            ⟨c, rfl, mx⟩ ?_ ?_⟩
          · rintro y σ H3 hy ⟨c, rfl, my⟩
            have hyn : y < n := by omega
            rw [Int.zero_add]
            obtain ⟨px, ep, ex, hpx⟩ := my.get hxn
            obtain ⟨pk, _, ek, hpk⟩ := my.get hkn
            have v1 : mix F' (fwN F' k) x y x y = F' x y := by unfold mix; rw [if_neg (by omega)]
            have v2 : mix F' (fwN F' k) x y x k = F' x k := by
              unfold mix
              split
              · exact rc.1 x hxn
              · rfl
            have v3 : mix F' (fwN F' k) x y k y = F' k y := by
              unfold mix
              split
              · exact rc.2 y hyn
              · rfl
            refine ⟨_, rfl, _, rfl, D, _, _, _, rfl, rfl, SqL.of my.out, atI_nat ex, _, rfl, px, _, _, _, rfl, rfl, SqL.of hpx, row_at hyn, ?_⟩
            refine ⟨_, rfl, _, rfl, D, _, _, _, rfl, rfl, SqL.of my.out, atI_nat ex, _, rfl, px, _, _, _, rfl, rfl, SqL.of hpx, row_at hkn, ?_⟩
            refine ⟨_, rfl, _, rfl, D, _, _, _, rfl, rfl, SqL.of my.out, atI_nat ek, _, rfl, pk, _, _, _, rfl, rfl, SqL.of hpk, row_at hyn, ?_⟩
            refine ⟨_, _, rfl, rfl, _, _, rfl, ?_⟩
            refine ⟨_, rfl, _, rfl, D, _, _, _, rfl, rfl, SqL.of my.out, atI_nat ex, _, rfl, ?_⟩
            refine ⟨px, _, _, y, rfl, rfl, hpx, (by rw [rowI_len]; exact ixN_of hyn), ?_⟩
            refine ⟨_, rfl, (my.putF ep _).congr' fun a b ha hb => ?_⟩
            rw [v1, v2, v3]
            unfold setM
            by_cases e : a = x ∧ b = y
            · have e2 : mix F' (fwN F' k) x (y + 1) x y = fwN F' k x y := by
                unfold mix
                rw [if_pos (by omega)]
              rw [if_pos e, e.1, e.2, e2]
              rfl
            · rw [if_neg e]
              unfold mix
              by_cases e2 : a < x ∨ a = x ∧ b < y
              · rw [if_pos e2, if_pos (by omega)]
              · rw [if_neg e2, if_neg (by omega)]
          · rintro σ H3 ⟨c, rfl, my⟩
            refine ⟨_, _, rfl, my.congr' fun a b ha hb => ?_⟩
            unfold mix
            by_cases e2 : a < x ∨ a = x ∧ b < (n : Int).toNat
            · rw [if_pos e2, if_pos (by omega)]
            · rw [if_neg e2, if_neg (by omega)]
        · rintro σ H2 ⟨b, c, rfl, mx⟩
          have nx := fw_next preF hkn viaF
          refine ⟨_, _, _, _, rfl, mx.congr' fun a b ha hb => ?_, nx.1, nx.2⟩
          unfold mix
          rw [if_pos (by omega)]
      · rintro σ H' ⟨F', a, b, c, rfl, mF, preF, viaF⟩
        have en : (n : Int).toNat = n := by omega
        rw [en] at viaF
        have src2 := src_list (K := K) (H1 := H') (a := D) (SqL.of mF.out)
        have hlm2 : (ps2.map V.ref).length = n := by rw [List.length_map]; exact mF.len
        rw [hlm2] at src2
        refine ⟨_, rfl, D, rfl, ⟨_, SqL.of mF.out⟩, ?_⟩
        refine lcN src2 (by omega) (R := RT2 F' n) RT2.rnl (by exact fun _ => rfl) ?_ ?_
        · intro i Hi hi si Qk hq
          obtain ⟨p, ep, ex, hp⟩ := mF.get hi
          have eg : (ps2.map V.ref).getD i .non = .ref p := by
            simp only [List.getD, ex]
            rfl
          refine ⟨_, rfl, p, _, (by rw [eg]), .inl ⟨SqL.of (si _ _ hp), fun l hl' => ?_⟩⟩
          exact hq _ _ (Same.upd hl') ⟨l, _, rfl, upd_same, rowI_arr⟩
        · intro D2 H2 ys s2 hE0 hE1 ar
          exact q F' _ _ (mF.same.trans s2) (met_of preF viaF) ⟨D2, ys, rfl, hE1, ar⟩
end
end KW
end

section
set_option Elab.async false
set_option linter.all false
set_option maxRecDepth 100000
set_option maxHeartbeats 4000000
set_option exponentiation.threshold 100000
namespace KW
open PySem PySem.Spec PyProof.Rows L2 K38
section
variable {P : Program} {w : World} {K : PySem.W.Frag} {mg : Str → Option Value} {base : Heap} {C : Addr}
theorem pre0 (n : Nat) : PreMet n (fun i j => if i = j then 0 else 10000) := by
  refine ⟨fun x _ => if_pos rfl, fun x y _ _ => ?_, fun x y _ _ h => ?_, fun x y _ _ => ?_⟩
  · show (if x = y then (0 : Int) else 10000) = if y = x then 0 else 10000
    split
    · rename_i e
      rw [if_pos e.symm]
    · rename_i e
      rw [if_neg fun z => e z.symm]
  · show (0 : Int) < if x = y then 0 else 10000
    rw [if_neg h]
    decide
  · show (if x = y then (0 : Int) else 10000) ≤ 10000
    split <;> decide
theorem int_of {z : Int} (h : 0 ≤ z) : z = ((z.toNat : Nat) : Int) := by omega
abbrev s_web : Stmt := top 34
abbrev N_web : List Str := ["_law_state_here", "_law_n", "_law_thick", "_law_x", "_law_y", "_law_rows_here", "_law_z", "_law_length"]
theorem sc_web : FnScope N_web ["_law_state_here", "_law_n", "_law_thick"] (defScope s_web) := ⟨rfl, rfl, rfl, by decide +kernel, rfl, by decide +kernel, by decide +kernel⟩
theorem ok_web {f fT fS : Addr} {fd fdT fdS : FuncData} (F : Fun K "_law_web" "_law_web" s_web f fd) (B : NM mg) (G_take : FnAt P w K mg base CX0 2 "_law_take" fT fdT ["_law_state_here", "_law_m"] [] spTake)
    (G_shortest : FnAt P w K mg base CX0 2 "_law_shortest" fS fdS ["_law_rows_here"] [] spShort) : FnOk P w K mg base CX0 4 f fd ["_law_state_here", "_law_n", "_law_thick"] spWeb := by
  refine F.ok sc_web (fun vs H Q E h => ?_) (fun cdv A outer s H vs Q E hr h => ?_)
  · obtain ⟨st, n, t, rfl, _⟩ := h
    rfl
  · obtain ⟨st, n, tk, rfl, hst, n1, n5, t0, t1, q⟩ := h
    refine ⟨_, (pss_cons (slcG (ps_setLc (i := 5) (own := [("_law_x", 3)]) (g := gName 3) rfl sc_web.nd rfl rfl (sw_true rfl rfl rfl (by decide +kernel)) (pi_range1 rfl B.range (pa_cons (pv 1) pa_nil)) (blkOk_by (own := [("_law_x", 3)]) (N := N_web) (sc := defScope s_web) (by decide +kernel)) (fun _ _ _ _ _ => (pg_name (i := 3) sc_web.nd rfl (Or.inr rfl))) (fun _ _ _ _ _ => pts_nil) (fun _ _ _ _ _ => (lcG (pe_lc (own := [("_law_y", 4)]) (g := gName 4) rfl sc_web.nd (pi_range1 rfl B.range (pa_cons (pv 1) pa_nil)) (blk_in (own := [("_law_y", 4)]) (N := N_web) (sc0 := defScope s_web) rfl (by decide +kernel)) (fun _ _ _ _ _ => (pg_name (i := 4) sc_web.nd rfl (Or.inl rfl))) (fun _ _ _ _ _ => pts_nil) (fun _ _ _ _ _ => (pe_ifExp (pt_cmpR op_eq (pv 3) (pv 4) (nomark _)) pe_int pe_int)))))))
  (pss_cons (ps_for PassesOwn.never rfl (pi_range1 rfl B.range (pa_cons (pv 1) pa_nil)) (pg_name (i := 3) sc_web.nd rfl (Or.inl rfl))
  (pss_one (ps_for PassesOwn.never rfl (pi_range1 rfl B.range (pa_cons (pv 3) pa_nil)) (pg_name (i := 4) sc_web.nd rfl (Or.inl rfl))
  (pss_one (ps_if (PW.pt (pw_or (pt_cmpR op_eq (pv 4) (pe_op op_sub (pv 3) pe_int) (nomark _)) (pw_or1 (pt_cmpR op_eq (pe_call G_take.ok (hr.mono (by decide)) rfl G_take.mgf G_take.kp G_take.b .nil pass0 (pa_cons (pv 0) (pa_cons (pv 2) pa_nil))) pe_int (nomark _))))) (pss_cons (ps_set (i := 6) sc_web.nd rfl (Or.inl rfl) (pv 4))
  (pss_cons (ps_if (pt_cmpR op_eq (pv 4) (pe_op op_sub (pv 3) pe_int) (nomark _)) (pss_one (ps_set (i := 6) sc_web.nd rfl (Or.inl rfl) (pe_call G_take.ok (hr.mono (by decide)) rfl G_take.mgf G_take.kp G_take.b .nil pass0 (pa_cons (pv 0) (pa_cons (pv 3) pa_nil))))) pss_nil)
  (pss_cons (ps_set (i := 7) sc_web.nd rfl (Or.inl rfl) (pe_op op_add pe_int (pe_call G_take.ok (hr.mono (by decide)) rfl G_take.mgf G_take.kp G_take.b .nil pass0 (pa_cons (pv 0) (pa_cons pe_int pa_nil)))))
  (pss_one (ps_asg (pe_tup (pa_cons (pv 7) (pa_cons (pv 7) pa_nil))) (pg_tup (n := 2) rfl (pgs_cons (pg_sub (pe_ix ix_list (pv 5) (pv 3) (fun _ _ => rfl)) (pv 6) set_list) (pgs_cons (pg_sub (pe_ix ix_list (pv 5) (pv 6) (fun _ _ => rfl)) (pv 3) set_list) pgs_nil)))))))) pss_nil)))))
  (pss_one (ps_ret (pe_call G_shortest.ok (hr.mono (by decide)) rfl G_shortest.mgf G_shortest.kp G_shortest.b .nil pass0 (pa_cons (pv 5) pa_nil)))))), ?_⟩
    have en : (n : Int).toNat = n := by omega
    refine ⟨_, rfl, (n : Int), rfl, by omega, by omega, ?_⟩
    rw [en]
    refine lcL (src_range (lo := 0) (n := n)) (by omega) (R := fun i => RI (fun j => if i = j then 0 else 10000)) (m := fun _ => n) (fun i => RI.rnl) (by exact fun _ => rfl) ?_ ?_
    · intro i Hi hi si Qk hq
      refine ⟨_, rfl, (n : Int), rfl, by omega, by omega, ?_⟩
      rw [en]
      refine lcN (src_range (lo := 0) (n := n)) (by omega) (R := RI (fun j => if i = j then 0 else 10000)) RI.rnl (by exact fun _ => rfl) ?_ ?_
      · intro j Hj hj sj Qk2 hq2
        refine ⟨_, rfl, _, rfl, rfl, _, rfl, bin2 (fun e => ?_) fun e => ?_⟩
        · refine hq2 _ _ (Same.refl _) ?_
          have : (0 : Int) + (i : Int) = 0 + (j : Int) := by injection e
          show V.int 0 = V.int (if i = j then 0 else 10000)
          rw [if_pos (by omega)]
        · refine hq2 _ _ (Same.refl _) ?_
          show V.int 10000 = V.int (if i = j then 0 else 10000)
          rw [if_neg (fun z => e (by rw [z]))]
      · intro D1 H2 ys s2 hE0 hE1 ar2
        exact hq D1 ys H2 s2 hE0 hE1 ar2
    · intro D H1 ps s1 hD0 hD1 hl1 hn1 hf1 nl
      have m0 : MatS st H H1 D ps n (fun i j => if i = j then 0 else 10000) := (mat_of s1 hD0 hD1 hl1 hn1 hf1 nl).toS hst

      refine ⟨_, rfl, (n : Int), rfl, by omega, by omega, for_range (lo := 0) (n := (n : Int).toNat) (fun x σ H' => ∃ (M : Mi) (a b c d : Option V), σ = [some (.ref st), some (.int (n : Int)), some (.int tk), a, b, some (.ref D), c, d] ∧ MatS st H H' D ps n M ∧ PreMet n M)
        ⟨_, none, none, none, none, rfl, m0, pre0 n⟩ ?_ ?_⟩
      · rintro x σ H' hx ⟨M, a, b, c, d, rfl, mS, pre⟩
        have hx : x < n := by omega
        rw [Int.zero_add]
        refine ⟨_, rfl, (x : Int), rfl, by omega, by omega, for_range (lo := 0) (n := (x : Int).toNat) (fun y σ H' => ∃ (M : Mi) (b c d : Option V), σ = [some (.ref st), some (.int (n : Int)), some (.int tk), some (.int (x : Int)), b, some (.ref D), c, d] ∧ MatS st H H' D ps n M ∧ PreMet n M)
          ⟨M, b, c, d, rfl, mS, pre⟩ ?_ ?_⟩
        · rintro y σ H2 hy ⟨M, b, c, d, rfl, mS, pre⟩
          have hyx : y < x := by omega
          rw [Int.zero_add]
          refine ⟨_, rfl, _, rfl, _, _, rfl, rfl, rfl, _, rfl, bin2 (fun e => ?_) fun e => ?_⟩
          · refine iteT ?_
            refine ⟨_, rfl, ?_⟩
            refine ⟨_, rfl, _, rfl, _, _, rfl, rfl, rfl, _, rfl, decT e ?_⟩
            refine ⟨_, rfl, _, rfl, st, _, rfl, mS.se.2, by omega, by omega, fun zI H3 z0 z1 s3 => ?_⟩
            have m3 := mS.draw s3
            rw [int_of z0]
            have hzx : zI.toNat < x := by omega
            generalize zI.toNat = z at *
            have hz : z < n := by omega
            refine ⟨_, rfl, st, _, rfl, m3.se.2, by decide, by decide, fun d H9 d0 d1 s9 => ⟨_, _, rfl, rfl, ?_⟩⟩
            have m9 := m3.draw s9
            refine ⟨_, rfl, _, rfl, (by show 2 ≤ sizeLine; decide), fun t ht => ?_⟩
            have mT := m9.add (Same.upd ht (o := .tup [.int (1 + d), .int (1 + d)]))
            obtain ⟨px, epx, ex, hpx⟩ := mT.get hx
            refine ⟨t, _, rfl, SqT.of upd_same, rfl, _, _, rfl, ?_⟩
            refine ⟨_, rfl, _, rfl, D, _, _, _, rfl, rfl, SqL.of mT.out, atI_nat ex, _, rfl, px, _, _, _, rfl, rfl, hpx, (by rw [rowI_len]; exact ixN_of hz), ?_⟩
            have m1 := mT.putS epx (j := z) (1 + d)
            obtain ⟨pz, epz, ez, hpz⟩ := m1.get hz
            refine ⟨_, _, rfl, ?_⟩
            refine ⟨_, rfl, _, rfl, D, _, _, _, rfl, rfl, SqL.of m1.out, atI_nat ez, _, rfl, pz, _, _, _, rfl, rfl, hpz, (by rw [rowI_len]; exact ixN_of hx), ?_⟩
            have m2 := m1.putS epz (j := x) (1 + d)
            refine ⟨rfl, ?_⟩
            exact ⟨_, _, _, _, rfl, m2, preMet_put pre (by omega) (by omega) (by omega)⟩
          · refine ⟨_, rfl, _, rfl, st, _, rfl, mS.se.2, by omega, by omega, fun u H3 u0 u1 s3 => ?_⟩
            have m3 := mS.draw s3
            refine ⟨rfl, _, rfl, ?_⟩
            refine bin2 (fun eu => ?_) fun eu => ?_
            · refine ⟨_, rfl, ?_⟩
              refine ⟨_, rfl, _, rfl, _, _, rfl, rfl, rfl, _, rfl, decF e ?_⟩
              obtain ⟨z, ez0⟩ : ∃ z, z = y := ⟨y, rfl⟩
              rw [← ez0]
              have hz : z < n := by omega
              refine ⟨_, rfl, st, _, rfl, m3.se.2, by decide, by decide, fun d H9 d0 d1 s9 => ⟨_, _, rfl, rfl, ?_⟩⟩
              have m9 := m3.draw s9
              refine ⟨_, rfl, _, rfl, (by show 2 ≤ sizeLine; decide), fun t ht => ?_⟩
              have mT := m9.add (Same.upd ht (o := .tup [.int (1 + d), .int (1 + d)]))
              obtain ⟨px, epx, ex, hpx⟩ := mT.get hx
              refine ⟨t, _, rfl, SqT.of upd_same, rfl, _, _, rfl, ?_⟩
              refine ⟨_, rfl, _, rfl, D, _, _, _, rfl, rfl, SqL.of mT.out, atI_nat ex, _, rfl, px, _, _, _, rfl, rfl, hpx, (by rw [rowI_len]; exact ixN_of hz), ?_⟩
              have m1 := mT.putS epx (j := z) (1 + d)
              obtain ⟨pz, epz, ez, hpz⟩ := m1.get hz
              refine ⟨_, _, rfl, ?_⟩
              refine ⟨_, rfl, _, rfl, D, _, _, _, rfl, rfl, SqL.of m1.out, atI_nat ez, _, rfl, pz, _, _, _, rfl, rfl, hpz, (by rw [rowI_len]; exact ixN_of hx), ?_⟩
              have m2 := m1.putS epz (j := x) (1 + d)
              refine ⟨rfl, ?_⟩
              exact ⟨_, _, _, _, rfl, m2, preMet_put pre (by omega) (by omega) (by omega)⟩
            · exact ⟨M, _, _, _, rfl, m3, pre⟩
        · rintro σ H2 ⟨M, b, c, d, rfl, mS, pre⟩
          exact ⟨M, _, _, _, _, rfl, mS, pre⟩
      · rintro σ H' ⟨M, a, b, c, d, rfl, mS, pre⟩
        refine ⟨_, rfl, D, ps, n, M, rfl, mS.out, mS.len, mS.row, by omega, pre, fun N v H2 s2 met hv => ?_⟩
        exact q N v H2 (mS.se.same s2) met hv
end
end KW
end

section
set_option Elab.async false
set_option linter.all false
set_option maxRecDepth 100000
set_option maxHeartbeats 4000000
set_option exponentiation.threshold 100000
namespace KW
open PySem PySem.Spec PyProof.Rows L2 K38
section
variable {P : Program} {w : World} {K : PySem.W.Frag} {mg : Str → Option Value} {base : Heap} {C : Addr}
abbrev s_of_tree : Stmt := top 36
abbrev N_of_tree : List Str := ["_law_state_here", "_law_n", "_law_m", "_law_x", "_law_rows_here", "_law_z", "_law_length", "_law_y"]
theorem sc_of_tree : FnScope N_of_tree ["_law_state_here", "_law_n"] (defScope s_of_tree) := ⟨rfl, rfl, rfl, by decide +kernel, rfl, by decide +kernel, by decide +kernel⟩
theorem met_sub {m : Nat} {D : Mi} {G : List Int} (h : IsMet m D) (nd : G.Nodup) (rg : ∀ x ∈ G, 0 ≤ x ∧ x < (m : Int)) : IsMet G.length (fun x y => D ((G.getD x 0).toNat) ((G.getD y 0).toNat)) := by
  have r : ∀ x, x < G.length → G.getD x 0 = G[x]! ∧ (G.getD x 0).toNat < m ∧ 0 ≤ G.getD x 0 := fun x hx => by
    have e : G.getD x 0 = G[x] := by simp only [List.getD, List.getElem?_eq_getElem hx]; rfl
    have q := rg _ (List.getElem_mem hx)
    rw [e]
    exact ⟨by rw [getElem!_pos G x hx], by omega, q.1⟩
  refine ⟨fun x hx => h.zero _ (r x hx).2.1, fun x y hx hy => h.sy _ _ (r x hx).2.1 (r y hy).2.1, fun x y hx hy hne => h.pos _ _ (r x hx).2.1 (r y hy).2.1 fun e => ?_, fun x y hx hy => h.big _ _ (r x hx).2.1 (r y hy).2.1,
    fun x y z hx hy hz => h.tri _ _ _ (r x hx).2.1 (r y hy).2.1 (r z hz).2.1⟩
  have e2 : G.getD x 0 = G.getD y 0 := by
    have := (r x hx).2.2
    have := (r y hy).2.2
    omega
  have e3 : G[x] = G[y] := by
    have a : G.getD x 0 = G[x] := by simp only [List.getD, List.getElem?_eq_getElem hx]; rfl
    have b : G.getD y 0 = G[y] := by simp only [List.getD, List.getElem?_eq_getElem hy]; rfl
    rw [← a, ← b]
    exact e2
  exact hne ((List.getElem_inj nd).mp e3)
theorem ok_tree {f fT fS fR fO : Addr} {fd fdT fdS fdR fdO : FuncData} (F : Fun K "_law_of_tree" "_law_of_tree" s_of_tree f fd) (B : NM mg) (G_take : FnAt P w K mg base CX0 2 "_law_take" fT fdT ["_law_state_here", "_law_m"] [] spTake)
    (G_shortest : FnAt P w K mg base CX0 2 "_law_shortest" fS fdS ["_law_rows_here"] [] spShort) (G_renamed : FnAt P w K mg base CX0 2 "_law_renamed" fR fdR ["_law_rows_here", "_law_order"] [] spRenamed)
    (G_order_of : FnAt P w K mg base CX0 4 "_law_order_of" fO fdO ["_law_state_here", "_law_n"] [] spOrder) : FnOk P w K mg base CX0 6 f fd ["_law_state_here", "_law_n"] spGen := by
  refine F.ok sc_of_tree (fun vs H Q E h => ?_) (fun cdv A outer s H vs Q E hr h => ?_)
  · obtain ⟨st, n, rfl, _⟩ := h
    rfl
  · obtain ⟨st, k, rfl, hst, k1, k5, q⟩ := h
    refine ⟨_, (pss_cons (ps_set (i := 2) sc_of_tree.nd rfl (Or.inr rfl) (pe_op op_add (pv 1) (pe_call G_take.ok (hr.mono (by decide)) rfl G_take.mgf G_take.kp G_take.b .nil pass0 (pa_cons (pv 0) (pa_cons pe_int pa_nil)))))
  (pss_cons (slcG (ps_setLc (i := 4) (own := [("_law_x", 3)]) (g := gName 3) rfl sc_of_tree.nd rfl rfl (sw_true rfl rfl rfl (by decide +kernel)) (pi_range1 rfl B.range (pa_cons (pv 2) pa_nil)) (blkOk_by (own := [("_law_x", 3)]) (N := N_of_tree) (sc := defScope s_of_tree) (by decide +kernel)) (fun _ _ _ _ _ => (pg_name (i := 3) sc_of_tree.nd rfl (Or.inr rfl))) (fun _ _ _ _ _ => pts_nil) (fun _ _ _ _ _ => (lcG (pe_lc (own := [("_law_y", 7)]) (g := gName 7) rfl sc_of_tree.nd (pi_range1 rfl B.range (pa_cons (pv 2) pa_nil)) (blk_in (own := [("_law_y", 7)]) (N := N_of_tree) (sc0 := defScope s_of_tree) rfl (by decide +kernel)) (fun _ _ _ _ _ => (pg_name (i := 7) sc_of_tree.nd rfl (Or.inl rfl))) (fun _ _ _ _ _ => pts_nil) (fun _ _ _ _ _ => (pe_ifExp (pt_cmpR op_eq (pv 3) (pv 7) (nomark _)) pe_int pe_int)))))))
  (pss_cons (ps_for PassesOwn.never rfl (pi_range2 rfl B.range (pa_cons pe_int (pa_cons (pv 2) pa_nil))) (pg_name (i := 3) sc_of_tree.nd rfl (Or.inl rfl))
  (pss_cons (ps_set (i := 5) sc_of_tree.nd rfl (Or.inl rfl) (pe_call G_take.ok (hr.mono (by decide)) rfl G_take.mgf G_take.kp G_take.b .nil pass0 (pa_cons (pv 0) (pa_cons (pv 3) pa_nil))))
  (pss_cons (ps_set (i := 6) sc_of_tree.nd rfl (Or.inl rfl) (pe_op op_add pe_int (pe_call G_take.ok (hr.mono (by decide)) rfl G_take.mgf G_take.kp G_take.b .nil pass0 (pa_cons (pv 0) (pa_cons pe_int pa_nil)))))
  (pss_one (ps_asg (pe_tup (pa_cons (pv 6) (pa_cons (pv 6) pa_nil))) (pg_tup (n := 2) rfl (pgs_cons (pg_sub (pe_ix ix_list (pv 4) (pv 3) (fun _ _ => rfl)) (pv 5) set_list) (pgs_cons (pg_sub (pe_ix ix_list (pv 4) (pv 5) (fun _ _ => rfl)) (pv 3) set_list) pgs_nil))))))))
  (pss_one (ps_ret (pe_call G_renamed.ok (hr.mono (by decide)) rfl G_renamed.mgf G_renamed.kp G_renamed.b .nil pass0 (pa_cons (pe_call G_shortest.ok (hr.mono (by decide)) rfl G_shortest.mgf G_shortest.kp G_shortest.b .nil pass0 (pa_cons (pv 4) pa_nil)) (pa_cons (pe_slice sl_list (pe_call G_order_of.ok (hr.mono (by decide)) rfl G_order_of.mgf G_order_of.kp G_order_of.b .nil pass0 (pa_cons (pv 0) (pa_cons (pv 2) pa_nil))) po_none (po_some (pv 1))) pa_nil)))))))), ?_⟩
    refine ⟨_, rfl, _, rfl, st, _, rfl, hst, by decide, by decide, fun v H0 v0 v1 s0 => ⟨_, _, rfl, rfl, ?_⟩⟩
    have em : (k : Int) + v = ((k + v.toNat : Nat) : Int) := by omega
    dsimp only
    rw [em]
    have hkn : k ≤ k + v.toNat := by omega
    have n7 : k + v.toNat ≤ 7 := by omega
    generalize k + v.toNat = n at *
    have en : (n : Int).toNat = n := by omega
    refine ⟨_, rfl, (n : Int), rfl, by omega, by omega, ?_⟩
    rw [en]
    refine lcL (src_range (lo := 0) (n := n)) (by omega) (R := fun i => RI (fun j => if i = j then 0 else 10000)) (m := fun _ => n) (fun i => RI.rnl) (by exact fun _ => rfl) ?_ ?_
    · intro i Hi hi si Qk hq
      refine ⟨_, rfl, (n : Int), rfl, by omega, by omega, ?_⟩
      rw [en]
      refine lcN (src_range (lo := 0) (n := n)) (by omega) (R := RI (fun j => if i = j then 0 else 10000)) RI.rnl (by exact fun _ => rfl) ?_ ?_
      · intro j Hj hj sj Qk2 hq2
        refine ⟨_, rfl, _, rfl, rfl, _, rfl, bin2 (fun e => ?_) fun e => ?_⟩
        · refine hq2 _ _ (Same.refl _) ?_
          have : (0 : Int) + (i : Int) = 0 + (j : Int) := by injection e
          show V.int 0 = V.int (if i = j then 0 else 10000)
          rw [if_pos (by omega)]
        · refine hq2 _ _ (Same.refl _) ?_
          show V.int 10000 = V.int (if i = j then 0 else 10000)
          rw [if_neg (fun z => e (by rw [z]))]
      · intro D1 H2 ys s2 hE0 hE1 ar2
        exact hq D1 ys H2 s2 hE0 hE1 ar2
    · intro D H1 ps s1 hD0 hD1 hl1 hn1 hf1 nl
      have m0 : MatS st H0 H1 D ps n (fun i j => if i = j then 0 else 10000) := (mat_of s1 hD0 hD1 hl1 hn1 hf1 nl).toS s0.2

      refine ⟨_, rfl, _, _, rfl, ⟨by decide, by decide, by omega, by omega⟩, for_range (lo := 1) (n := ((n : Int) - 1).toNat) (fun x σ H' => ∃ (M : Mi) (a c d : Option V), σ = [some (.ref st), some (.int (k : Int)), some (.int (n : Int)), a, some (.ref D), c, d, none] ∧ MatS st H0 H' D ps n M ∧ PreMet n M)
        ⟨_, none, none, none, rfl, m0, pre0 n⟩ ?_ ?_⟩
      · rintro x0 σ H' hx ⟨M, a, c, d, rfl, mS, pre⟩
        have ex : (1 : Int) + (x0 : Int) = ((x0 + 1 : Nat) : Int) := by omega
        rw [ex]
        have hx : x0 + 1 < n := by omega
        have hx1 : 0 < x0 + 1 := by omega
        generalize x0 + 1 = x at *
        refine ⟨_, rfl, _, rfl, st, _, rfl, mS.se.2, by omega, by omega, fun zI H3 z0 z1 s3 => ?_⟩
        have m3 := mS.draw s3
        rw [int_of z0]
        have hzx : zI.toNat < x := by omega
        generalize zI.toNat = z at *
        have hz : z < n := by omega
        refine ⟨_, rfl, st, _, rfl, m3.se.2, by decide, by decide, fun d H9 d0 d1 s9 => ⟨_, _, rfl, rfl, ?_⟩⟩
        have m9 := m3.draw s9
        refine ⟨_, rfl, _, rfl, (by show 2 ≤ sizeLine; decide), fun t ht => ?_⟩
        have mT := m9.add (Same.upd ht (o := .tup [.int (1 + d), .int (1 + d)]))
        obtain ⟨px, epx, ex, hpx⟩ := mT.get hx
        refine ⟨t, _, rfl, SqT.of upd_same, rfl, _, _, rfl, ?_⟩
        refine ⟨_, rfl, _, rfl, D, _, _, _, rfl, rfl, SqL.of mT.out, atI_nat ex, _, rfl, px, _, _, _, rfl, rfl, hpx, (by rw [rowI_len]; exact ixN_of hz), ?_⟩
        have m1 := mT.putS epx (j := z) (1 + d)
        obtain ⟨pz, epz, ez, hpz⟩ := m1.get hz
        refine ⟨_, _, rfl, ?_⟩
        refine ⟨_, rfl, _, rfl, D, _, _, _, rfl, rfl, SqL.of m1.out, atI_nat ez, _, rfl, pz, _, _, _, rfl, rfl, hpz, (by rw [rowI_len]; exact ixN_of hx), ?_⟩
        have m2 := m1.putS epz (j := x) (1 + d)
        refine ⟨rfl, ?_⟩
        exact ⟨_, _, _, _, rfl, m2, preMet_put pre (by omega) (by omega) (by omega)⟩
      · rintro σ H' ⟨M, a, c, d, rfl, mS, pre⟩
        refine ⟨_, rfl, D, ps, n, M, rfl, mS.out, mS.len, mS.row, by omega, pre, fun N u H2 s2 met hu => ?_⟩
        have m2 := mS.add s2
        refine ⟨_, rfl, _, rfl, st, n, rfl, m2.se.2, by omega, by omega, fun o G H3 s3 fo ost ho lo nd rg => ?_⟩
        refine ⟨_, rfl, _, rfl, o, _, rfl, SqL.of ho, fun u2 hu2 => ?_⟩
        have eG : cutV (G.map V.int) none (some (k : Int)) = (G.take k).map V.int := by rw [cut_take _ (by rw [List.length_map]; omega), List.map_take]
        rw [eG]
        have rgG : ∀ x ∈ G.take k, 0 ≤ x ∧ x < (n : Int) := fun x hx => rg x (List.mem_of_mem_take hx)
        have lG : (G.take k).length = k := by rw [List.length_take]; omega
        have hu3 : RowsT N n n u H3 := by
          obtain ⟨p, vs, rfl, hp, ar⟩ := hu
          have pst : p ≠ st := fun e => by
            obtain ⟨a1, b1, h1, _⟩ := m2.se.2
            rw [e, h1] at hp
            cases hp
            obtain ⟨_, a1, _, hv, _⟩ := ar.get (show 0 < n by omega)
            have := ar.2 0 _ rfl
            obtain ⟨_, _, z, _⟩ := this
            cases z
          exact ⟨p, vs, rfl, s3.1 _ _ pst hp, ar.nl RT2.rnl (s3.nl m2.se.2)⟩
        refine ⟨u, u2, n, N, G.take k, rfl, hu3.same (Same.upd hu2), upd_same, rgG, by omega, by omega, fun v2 H4 s4 hv2 => ?_⟩
        rw [lG] at hv2
        have ms := met_sub met (List.Nodup.sublist (List.take_sublist k G) nd) rgG
        rw [lG] at ms
        exact q _ v2 H4 ((s0.trans ((m2.se.trans s3).same ((Same.upd hu2).trans s4)))) ms hv2
end
end KW
end

section
set_option Elab.async false
set_option linter.all false
set_option maxRecDepth 100000
set_option maxHeartbeats 4000000
set_option exponentiation.threshold 100000
namespace KW
open PySem PySem.Spec PyProof.Rows L2 K38
section
variable {P : Program} {w : World} {K : PySem.W.Frag} {mg : Str → Option Value} {base : Heap} {C : Addr}
abbrev s_band : Stmt := top 38
abbrev N_band : List Str := ["_law_state_here", "_law_n", "_law_low", "_law_x", "_law_y", "_law_rows_here", "_law_length", "_law_row"]
theorem sc_band : FnScope N_band ["_law_state_here", "_law_n"] (defScope s_band) := ⟨rfl, rfl, rfl, by decide +kernel, rfl, by decide +kernel, by decide +kernel⟩
structure Bd (n : Nat) (low : Int) (x y : Nat) (M : Mi) : Prop where
  zero : ∀ a, a < n → M a a = 0
  sy : ∀ a b, a < n → b < n → M a b = M b a
  rg : ∀ a b, a < n → b < a → (a < x ∨ (a = x ∧ b < y)) → low ≤ M a b ∧ M a b ≤ 2 * low
theorem Bd.put {n : Nat} {low l : Int} {x y : Nat} {M : Mi} (h : Bd n low x y M) (hy : y < x) (l0 : low ≤ l) (l1 : l ≤ 2 * low) : Bd n low x (y + 1) (setM (setM M x y l) y x l) := by
  unfold setM
  refine ⟨fun a ha => ?_, fun a b ha hb => ?_, fun a b ha hb hp => ?_⟩
  · show (if a = y ∧ a = x then l else if a = x ∧ a = y then l else M a a) = 0
    rw [if_neg (by omega), if_neg (by omega)]
    exact h.zero a ha
  · show (if a = y ∧ b = x then l else if a = x ∧ b = y then l else M a b) = (if b = y ∧ a = x then l else if b = x ∧ a = y then l else M b a)
    by_cases c1 : a = y ∧ b = x
    · rw [if_pos c1, if_neg (by omega), if_pos (by omega)]
    · rw [if_neg c1]
      by_cases c2 : a = x ∧ b = y
      · rw [if_pos c2, if_pos (by omega)]
      · rw [if_neg c2, if_neg (by omega), if_neg (by omega)]
        exact h.sy a b ha hb
  · show low ≤ (if a = y ∧ b = x then l else if a = x ∧ b = y then l else M a b) ∧ (if a = y ∧ b = x then l else if a = x ∧ b = y then l else M a b) ≤ 2 * low
    rw [if_neg (show ¬ (a = y ∧ b = x) by omega)]
    by_cases c2 : a = x ∧ b = y
    · rw [if_pos c2]
      exact ⟨l0, l1⟩
    · rw [if_neg c2]
      exact h.rg a b ha hb (by omega)
theorem Bd.met {n : Nat} {low : Int} {M : Mi} {y : Nat} (h : Bd n low n y M) (l1 : 1 ≤ low) (l3 : low ≤ 3) : IsMet n M := by
  have r : ∀ a b, a < n → b < n → a ≠ b → low ≤ M a b ∧ M a b ≤ 2 * low := fun a b ha hb hne => by
    rcases Nat.lt_or_gt_of_ne hne with c | c
    · rw [h.sy a b ha hb]
      exact h.rg b a hb c (.inl hb)
    · exact h.rg a b ha c (.inl ha)
  have z := h.zero
  refine ⟨z, h.sy, fun a b ha hb hne => ?_, fun a b ha hb => ?_, fun a b c ha hb hc => ?_⟩
  · have := r a b ha hb hne
    omega
  · by_cases e : a = b
    · subst e
      have := z a ha
      omega
    · have := r a b ha hb e
      omega
  · by_cases e : a = b
    · subst e
      have := z a ha
      omega
    · by_cases e2 : b = c
      · subst e2
        have := z b hb
        omega
      · have q1 := r a b ha hb e
        have q2 := r b c hb hc e2
        by_cases e3 : a = c
        · subst e3
          have := z a ha
          omega
        · have q3 := r a c ha hc e3
          omega
theorem ok_band {f fT : Addr} {fd fdT : FuncData} (F : Fun K "_law_band" "_law_band" s_band f fd) (B : NM mg) (G_take : FnAt P w K mg base CX0 2 "_law_take" fT fdT ["_law_state_here", "_law_m"] [] spTake) : FnOk P w K mg base CX0 4 f fd ["_law_state_here", "_law_n"] spGen := by
  refine F.ok sc_band (fun vs H Q E h => ?_) (fun cdv A outer s H vs Q E hr h => ?_)
  · obtain ⟨st, n, rfl, _⟩ := h
    rfl
  · obtain ⟨st, n, rfl, hst, n1, n5, q⟩ := h
    refine ⟨_, (pss_cons (ps_set (i := 2) sc_band.nd rfl (Or.inl rfl) (pe_op op_add pe_int (pe_call G_take.ok (hr.mono (by decide)) rfl G_take.mgf G_take.kp G_take.b .nil pass0 (pa_cons (pv 0) (pa_cons pe_int pa_nil)))))
  (pss_cons (slcG (ps_setLc (i := 5) (own := [("_law_x", 3)]) (g := gName 3) rfl sc_band.nd rfl rfl (sw_true rfl rfl rfl (by decide +kernel)) (pi_range1 rfl B.range (pa_cons (pv 1) pa_nil)) (blkOk_by (own := [("_law_x", 3)]) (N := N_band) (sc := defScope s_band) (by decide +kernel)) (fun _ _ _ _ _ => (pg_name (i := 3) sc_band.nd rfl (Or.inl rfl))) (fun _ _ _ _ _ => pts_nil) (fun _ _ _ _ _ => (lcG (pe_lc (own := [("_law_y", 4)]) (g := gName 4) rfl sc_band.nd (pi_range1 rfl B.range (pa_cons (pv 1) pa_nil)) (blk_in (own := [("_law_y", 4)]) (N := N_band) (sc0 := defScope s_band) rfl (by decide +kernel)) (fun _ _ _ _ _ => (pg_name (i := 4) sc_band.nd rfl (Or.inl rfl))) (fun _ _ _ _ _ => pts_nil) (fun _ _ _ _ _ => pe_int))))))
  (pss_cons (ps_for PassesOwn.never rfl (pi_range1 rfl B.range (pa_cons (pv 1) pa_nil)) (pg_name (i := 3) sc_band.nd rfl (Or.inl rfl))
  (pss_one (ps_for PassesOwn.never rfl (pi_range1 rfl B.range (pa_cons (pv 3) pa_nil)) (pg_name (i := 4) sc_band.nd rfl (Or.inl rfl))
  (pss_cons (ps_set (i := 6) sc_band.nd rfl (Or.inl rfl) (pe_op op_add (pv 2) (pe_call G_take.ok (hr.mono (by decide)) rfl G_take.mgf G_take.kp G_take.b .nil pass0 (pa_cons (pv 0) (pa_cons (pe_op op_add (pv 2) pe_int) pa_nil)))))
  (pss_one (ps_asg (pe_tup (pa_cons (pv 6) (pa_cons (pv 6) pa_nil))) (pg_tup (n := 2) rfl (pgs_cons (pg_sub (pe_ix ix_list (pv 5) (pv 3) (fun _ _ => rfl)) (pv 4) set_list) (pgs_cons (pg_sub (pe_ix ix_list (pv 5) (pv 4) (fun _ _ => rfl)) (pv 3) set_list) pgs_nil)))))))))
  (pss_one (ps_ret (lcG (pe_lc (own := [("_law_row", 7)]) (g := gName 7) rfl sc_band.nd (pi_list (pv 5)) (blkOk_by (own := [("_law_row", 7)]) (N := N_band) (sc := defScope s_band) (by decide +kernel)) (fun _ _ _ _ _ => (pg_name (i := 7) sc_band.nd rfl (Or.inl rfl))) (fun _ _ _ _ _ => pts_nil) (fun _ _ _ _ _ => (pe_callTy (call_tupleK K rfl) (by rfl) B.tuple (by decide +kernel) (pa_cons (pv 7) pa_nil)))))))))), ?_⟩
    refine ⟨_, rfl, st, _, rfl, hst, by decide, by decide, fun v H0 v0 v1 s0 => ⟨_, _, rfl, rfl, ?_⟩⟩
    have en : (n : Int).toNat = n := by omega
    refine ⟨_, rfl, (n : Int), rfl, by omega, by omega, ?_⟩
    rw [en]
    refine lcL (src_range (lo := 0) (n := n)) (by omega) (R := fun i => RI (fun j => 0)) (m := fun _ => n) (fun i => RI.rnl) (by exact fun _ => rfl) ?_ ?_
    · intro i Hi hi si Qk hq
      refine ⟨_, rfl, (n : Int), rfl, by omega, by omega, ?_⟩
      rw [en]
      refine lcN (src_range (lo := 0) (n := n)) (by omega) (R := RI (fun j => 0)) RI.rnl (by exact fun _ => rfl) ?_ ?_
      · intro j Hj hj sj Qk2 hq2
        exact hq2 _ _ (Same.refl _) rfl
      · intro D1 H2 ys s2 hE0 hE1 ar2
        exact hq D1 ys H2 s2 hE0 hE1 ar2
    · intro D H1 ps s1 hD0 hD1 hl1 hn1 hf1 nl
      have m0 : MatS st H0 H1 D ps n (fun i j => 0) := (mat_of s1 hD0 hD1 hl1 hn1 hf1 nl).toS s0.2
      refine ⟨_, rfl, (n : Int), rfl, by omega, by omega, for_range (lo := 0) (n := (n : Int).toNat) (fun x σ H' => ∃ (M : Mi) (a b c : Option V), σ = [some (.ref st), some (.int (n : Int)), some (.int (1 + v)), a, b, some (.ref D), c, none] ∧ MatS st H0 H' D ps n M ∧ Bd n (1 + v) x 0 M)
        ⟨_, none, none, none, rfl, m0, fun _ _ => rfl, fun _ _ _ _ => rfl, fun a b _ _ h => absurd h (by omega)⟩ ?_ ?_⟩
      · rintro x σ H' hx ⟨M, a, b, c, rfl, mS, pre⟩
        have hx : x < n := by omega
        rw [Int.zero_add]
        refine ⟨_, rfl, (x : Int), rfl, by omega, by omega, for_range (lo := 0) (n := (x : Int).toNat) (fun y σ H' => ∃ (M : Mi) (b c : Option V), σ = [some (.ref st), some (.int (n : Int)), some (.int (1 + v)), some (.int (x : Int)), b, some (.ref D), c, none] ∧ MatS st H0 H' D ps n M ∧ Bd n (1 + v) x y M)
          ⟨M, b, c, rfl, mS, pre⟩ ?_ ?_⟩
        · rintro z σ H2 hy ⟨M, b, c, rfl, mS, pre⟩
          have hzx : z < x := by omega
          have hz : z < n := by omega
          rw [Int.zero_add]
          refine ⟨_, rfl, _, rfl, _, rfl, _, _, rfl, rfl, st, _, rfl, mS.se.2, by omega, by omega, fun d H9 d0 d1 s9 => ⟨_, _, rfl, rfl, ?_⟩⟩
          have m9 := mS.draw s9
          refine ⟨_, rfl, _, rfl, (by show 2 ≤ sizeLine; decide), fun t ht => ?_⟩
          have mT := m9.add (Same.upd ht (o := .tup [.int ((1 + v) + d), .int ((1 + v) + d)]))
          obtain ⟨px, epx, ex, hpx⟩ := mT.get hx
          refine ⟨t, _, rfl, SqT.of upd_same, rfl, _, _, rfl, ?_⟩
          refine ⟨_, rfl, _, rfl, D, _, _, _, rfl, rfl, SqL.of mT.out, atI_nat ex, _, rfl, px, _, _, _, rfl, rfl, hpx, (by rw [rowI_len]; exact ixN_of hz), ?_⟩
          have m1 := mT.putS epx (j := z) ((1 + v) + d)
          obtain ⟨pz, epz, ez, hpz⟩ := m1.get hz
          refine ⟨_, _, rfl, ?_⟩
          refine ⟨_, rfl, _, rfl, D, _, _, _, rfl, rfl, SqL.of m1.out, atI_nat ez, _, rfl, pz, _, _, _, rfl, rfl, hpz, (by rw [rowI_len]; exact ixN_of hx), ?_⟩
          have m2 := m1.putS epz (j := x) ((1 + v) + d)
          refine ⟨rfl, ?_⟩
          exact ⟨_, _, _, rfl, m2, pre.put hzx (by omega) (by omega)⟩
        · rintro σ H2 ⟨M, b, c, rfl, mS, pre⟩
          refine ⟨M, _, _, _, rfl, mS, pre.zero, pre.sy, fun a b ha hb hp => pre.rg a b ha hb (by omega)⟩
      · rintro σ H' ⟨M, a, b, c, rfl, mS, pre⟩
        rw [en] at pre
        have src2 := src_list (K := K) (H1 := H') (a := D) (SqL.of mS.out)
        have hlm2 : (ps.map V.ref).length = n := by rw [List.length_map]; exact mS.len
        rw [hlm2] at src2
        refine ⟨_, rfl, D, rfl, ⟨_, SqL.of mS.out⟩, ?_⟩
        refine lcN src2 (by omega) (R := RT2 M n) RT2.rnl (by exact fun _ => rfl) ?_ ?_
        · intro i Hi hi si Qk hq
          obtain ⟨p, ep, ex, hp⟩ := mS.get hi
          have eg : (ps.map V.ref).getD i .non = .ref p := by
            simp only [List.getD, ex]
            rfl
          refine ⟨_, rfl, p, _, (by rw [eg]), .inl ⟨SqL.of (si _ _ hp), fun l hl' => ?_⟩⟩
          exact hq _ _ (Same.upd hl') ⟨l, _, rfl, upd_same, rowI_arr⟩
        · intro D2 H2 ys s2 hE0 hE1 ar
          exact q M _ _ ((s0.trans mS.se).same s2) (pre.met (by omega) (by omega)) ⟨D2, ys, rfl, hE1, ar⟩
end
end KW
end

section
set_option Elab.async false
set_option linter.all false
set_option maxRecDepth 100000
set_option maxHeartbeats 4000000
set_option exponentiation.threshold 100000
namespace KW
open PySem PySem.Spec PyProof.Rows L2 K38
section
variable {P : Program} {w : World} {K : PySem.W.Frag} {mg : Str → Option Value} {base : Heap} {C : Addr}
abbrev s_grid : Stmt := top 37
abbrev N_grid : List Str := ["_law_state_here", "_law_n", "_law_left", "_law_points", "_law_k", "_law_x", "_law_a", "_law_b"]
theorem sc_grid : FnScope N_grid ["_law_state_here", "_law_n"] (defScope s_grid) := ⟨rfl, rfl, rfl, by decide +kernel, rfl, by decide +kernel, by decide +kernel⟩
def gX (g : Nat) : Int := ((g / 4 : Nat) : Int)
def gY (g : Nat) : Int := ((g % 4 : Nat) : Int)
def RG : Rep := fun i v H => ∃ p, v = .ref p ∧ H p = some (.tup [.int (gX i), .int (gY i)])
theorem RG.rnl : RNL RG := fun i v H H' s ⟨p, e, h⟩ => ⟨p, e, s _ _ h (fun xs z => by cases z)⟩
def absI (t : Int) : Int := if t < 0 then -t else t
def gridM (G : List Nat) : Mi := fun i j => absI (gX (G.getD i 0) - gX (G.getD j 0)) + absI (gY (G.getD i 0) - gY (G.getD j 0))
theorem grid_met {G : List Nat} (nd : G.Nodup) (lt : ∀ g ∈ G, g < 16) : IsMet G.length (gridM G) := by
  have r : ∀ i, i < G.length → G.getD i 0 < 16 := fun i hi => by
    have e : G.getD i 0 = G[i] := by simp only [List.getD, List.getElem?_eq_getElem hi]; rfl
    rw [e]
    exact lt _ (List.getElem_mem hi)
  have inj : ∀ i j, i < G.length → j < G.length → i ≠ j → G.getD i 0 ≠ G.getD j 0 := fun i j hi hj hne e => by
    have a : G.getD i 0 = G[i] := by simp only [List.getD, List.getElem?_eq_getElem hi]; rfl
    have b : G.getD j 0 = G[j] := by simp only [List.getD, List.getElem?_eq_getElem hj]; rfl
    rw [a, b] at e
    exact hne ((List.getElem_inj nd).mp e)
  unfold gridM gX gY absI
  refine ⟨fun x hx => ?_, fun x y hx hy => ?_, fun x y hx hy hne => ?_, fun x y hx hy => ?_, fun x y z hx hy hz => ?_⟩
  · skip
    split <;> split <;> omega
  · skip
    split <;> split <;> split <;> split <;> omega
  · have a := r x hx
    have b := r y hy
    have c := inj x y hx hy hne
    split <;> split <;> omega
  · have a := r x hx
    have b := r y hy
    split <;> split <;> omega
  · skip
    split <;> split <;> split <;> split <;> split <;> split <;> omega
theorem ok_grid {f fT : Addr} {fd fdT : FuncData} (F : Fun K "_law_grid" "_law_grid" s_grid f fd) (B : NM mg) (G_take : FnAt P w K mg base CX0 2 "_law_take" fT fdT ["_law_state_here", "_law_m"] [] spTake) : FnOk P w K mg base CX0 4 f fd ["_law_state_here", "_law_n"] spGen := by
  refine F.ok sc_grid (fun vs H Q E h => ?_) (fun cdv A outer s H vs Q E hr h => ?_)
  · obtain ⟨st, n, rfl, _⟩ := h
    rfl
  · obtain ⟨st, n, rfl, hst, n1, n5, q⟩ := h
    refine ⟨_, (pss_cons (slcG (ps_setLc (i := 2) (own := [("_law_x", 5)]) (g := gName 5) rfl sc_grid.nd rfl rfl (sw_true rfl rfl rfl (by decide +kernel)) (pi_range1 rfl B.range (pa_cons pe_int pa_nil)) (blkOk_by (own := [("_law_x", 5)]) (N := N_grid) (sc := defScope s_grid) (by decide +kernel)) (fun _ _ _ _ _ => (pg_name (i := 5) sc_grid.nd rfl (Or.inl rfl))) (fun _ _ _ _ _ => pts_nil) (fun _ _ _ _ _ => (pe_tup (pa_cons (pe_op op_fdiv (pv 5) pe_int) (pa_cons (pe_op op_mod (pe_callTy call_int1 (by rfl) B.int (by decide +kernel) (pa_cons (pv 5) pa_nil)) pe_int) pa_nil))))))
  (pss_cons (ps_set (i := 3) sc_grid.nd rfl (Or.inr rfl) (pe_lst pa_nil))
  (pss_cons (ps_for PassesOwn.never rfl (pi_range1 rfl B.range (pa_cons (pv 1) pa_nil)) (pg_name (i := 4) sc_grid.nd rfl (Or.inl rfl))
  (pss_one (ps_expr (pe_bm PySem.F.plainAttrs_list PySem.F.slot_list_append PySem.F.type_list_append mt_append (pv 3) (pa_cons (pe_bm PySem.F.plainAttrs_list PySem.F.slot_list_pop PySem.F.type_list_pop mt_popAt (pv 2) (pa_cons (pe_call G_take.ok (hr.mono (by decide)) rfl G_take.mgf G_take.kp G_take.b .nil pass0 (pa_cons (pv 0) (pa_cons (pe_callB call_len_seq (by rfl) B.len (by decide +kernel) (pa_cons (pv 2) pa_nil)) pa_nil))) pa_nil)) pa_nil)))))
  (pss_one (ps_ret (lcG (pe_lc (own := [("_law_a", 6)]) (g := gName 6) rfl sc_grid.nd (pi_list (pv 3)) (blkOk_by (own := [("_law_a", 6)]) (N := N_grid) (sc := defScope s_grid) (by decide +kernel)) (fun _ _ _ _ _ => (pg_name (i := 6) sc_grid.nd rfl (Or.inr rfl))) (fun _ _ _ _ _ => pts_nil) (fun _ _ _ _ _ => (pe_callTy (call_tupleK K rfl) (by rfl) B.tuple (by decide +kernel) (pa_cons (lcG (pe_lc (own := [("_law_b", 7)]) (g := gName 7) rfl sc_grid.nd (pi_listK K rfl (pv 3)) (blk_in (own := [("_law_b", 7)]) (N := N_grid) (sc0 := defScope s_grid) rfl (by decide +kernel)) (fun _ _ _ _ _ => (pg_name (i := 7) sc_grid.nd rfl (Or.inl rfl))) (fun _ _ _ _ _ => pts_nil) (fun _ _ _ _ _ => (pe_op op_add (pe_callB call_abs (by rfl) B.abs (by decide +kernel) (pa_cons (pe_op op_sub (pe_ix (ix_tupK K rfl) (pv 6) pe_int (fun _ _ => rfl)) (pe_ix (ix_tupK K rfl) (pv 7) pe_int (fun _ _ => rfl))) pa_nil)) (pe_callB call_abs (by rfl) B.abs (by decide +kernel) (pa_cons (pe_op op_sub (pe_ix (ix_tupK K rfl) (pv 6) pe_int (fun _ _ => rfl)) (pe_ix (ix_tupK K rfl) (pv 7) pe_int (fun _ _ => rfl))) pa_nil)))))) pa_nil)))))))))), ?_⟩
    refine ⟨16, rfl, by decide, by decide, ?_⟩
    refine lcN (src_range (lo := 0) (n := 16)) (by decide) (R := RG) RG.rnl (by exact fun _ => rfl) ?_ ?_
    · intro i Hi hi si Qk hq
      refine ⟨_, rfl, _, _, rfl, rfl, ⟨by decide, by decide⟩, _, rfl, .inl ⟨_, rfl, _, _, rfl, rfl, (by show (0 : Int) < 4; decide), (by show 2 ≤ sizeLine; decide), fun t ht => ?_⟩⟩
      refine hq _ _ (Same.upd ht) ⟨t, rfl, ?_⟩
      show upd Hi t (.tup [.int ((0 + (i : Int)) / 4), .int ((0 + (i : Int)) % 4)]) t = _
      rw [upd_same, Int.zero_add]
      unfold gX gY
      rw [Int.natCast_ediv, Int.natCast_emod]
      rfl
    · intro l H1 ys s1 hl0 hl1 ar
      refine ⟨Nat.zero_le _, fun g hg => ?_⟩
      have lst : l ≠ st := hst.ne hl0
      have hg0 : H g = none := s1.free hg
      have gst : g ≠ st := hst.ne hg0
      have lg : l ≠ g := ne_of_none hl1 hg
      have arg := ar.nl RG.rnl (NL.of (Same.upd hg (o := .lst [])))
      have ylen := ar.1
      have e16 : ys = (List.range 16).map fun i => ys.getD i .non := by
        refine List.ext_getElem? fun i => ?_
        rcases Nat.lt_or_ge i 16 with h | h
        · rw [(ar.item h).1]
          simp [h]
        · rw [List.getElem?_eq_none (by omega), List.getElem?_eq_none (by simp; omega)]
      refine ⟨_, rfl, (n : Int), rfl, by omega, by omega, for_range (lo := 0) (n := (n : Int).toNat) (fun i σ H' => ∃ (L G : List Nat) (v : Option V), σ = [some (.ref st), some (.int (n : Int)), some (.ref l), some (.ref g), v, none, none, none] ∧ SE st H H' ∧ NL H1 H' ∧
        H' l = some (.lst (L.map fun i => ys.getD i .non)) ∧ H' g = some (.lst (G.map fun i => ys.getD i .non)) ∧ G.length = i ∧ L.length = 16 - i ∧ (G ++ L).Nodup ∧ ∀ x ∈ G ++ L, x < 16)
        ⟨List.range 16, [], none, rfl, (SE.of hst s1).upd hg0 gst, NL.of (Same.upd hg), ?_, upd_same, rfl, rfl, by decide, by decide⟩ ?_ ?_⟩
      · rw [upd_ne lg, hl1]
        exact congrArg (fun z => some (HO.lst z)) e16
      · rintro i σ H' hi ⟨L, G, v, rfl, s2, nl2, h1, h2, e1, e2, nd, rg⟩
        have hLpos : 0 < L.length := by omega
        refine ⟨_, rfl, .inl ⟨rfl, _, SqL.of h2⟩, _, rfl, .inl ⟨rfl, _, SqL.of h1⟩, _, rfl, _, rfl, _, _, rfl, .inl (SqL.of h1), ?_⟩
        refine ⟨st, _, rfl, s2.2, by rw [List.length_map]; omega, by rw [List.length_map]; omega, fun y H3 y0 y1 s3 => ?_⟩
        rw [List.length_map] at y1
        have k1 := s3.1 _ _ lst h1
        have k2 := s3.1 _ _ gst h2
        have hy : y.toNat < L.length := by omega
        refine ⟨l, L.map fun i => ys.getD i .non, y, y.toNat, ys.getD L[y.toNat] .non, rfl, rfl, k1, by omega, by omega, seqIndex_of y0 (by rw [List.length_map]; omega), by rw [List.getElem?_map, List.getElem?_eq_getElem hy]; rfl, ?_⟩
        refine ⟨g, G.map fun i => ys.getD i .non, _, rfl, rfl, by rw [upd_ne lg.symm]; exact k2, by rw [List.length_map]; exact Nat.lt_of_lt_of_le (show G.length < 17 by omega) (by decide), ?_⟩
        have pp := perm_pop G L (List.getElem?_eq_getElem hy)
        have gl2 := upd_ne (H := H3) (o := .lst ((L.map fun i => ys.getD i .non).eraseIdx y.toNat)) lg.symm
        have nl3 : NL H1 H3 := nl2.trans (s3.nl s2.2)
        refine ⟨L.eraseIdx y.toNat, G ++ [L[y.toNat]], _, rfl, ((s2.trans s3).upd hl0 lst).upd hg0 gst, (nl3.trans (NL.upd k1)).trans (NL.upd (by rw [gl2]; exact k2)), ?_, ?_, ?_, ?_, ?_, ?_⟩
        · rw [upd_ne lg, upd_same, List.eraseIdx_eq_take_drop_succ, List.eraseIdx_eq_take_drop_succ, List.map_append, List.map_take, List.map_drop]
        · rw [upd_same, List.map_append]; rfl
        · rw [List.length_append, e1]; rfl
        · rw [List.length_eraseIdx_of_lt hy]; omega
        · exact pp.nodup_iff.mpr nd
        · intro x hx
          exact rg x (pp.mem_iff.mp hx)
      · rintro σ H' ⟨L, G, v, rfl, s2, nl2, h1, h2, e1, e2, nd, rg⟩
        have lG : G.length = n := by omega
        have ndG := (List.nodup_append.mp nd).1
        have rgG : ∀ x ∈ G, x < 16 := fun x hx => rg x (List.mem_append_left _ hx)
        have ar' := ar.nl RG.rnl nl2
        have gm := grid_met ndG rgG
        rw [lG] at gm
        have srcG : ∀ Hk, Same H' Hk → Src (Itl K g) n (fun i => (G.map fun i => ys.getD i .non).getD i .non) Hk := fun Hk sk => by
          have s := src_list (K := K) (H1 := Hk) (a := g) (SqL.of (sk _ _ h2))
          rw [List.length_map, lG] at s
          exact s
        have it : ∀ i, i < n → ∃ p, (G.map fun i => ys.getD i .non).getD i .non = .ref p ∧ H' p = some (.tup [.int (gX (G.getD i 0)), .int (gY (G.getD i 0))]) := fun i hi => by
          have hi' : i < G.length := by omega
          have e : G.getD i 0 = G[i] := by simp only [List.getD, List.getElem?_eq_getElem hi']; rfl
          have ev : (G.map fun i => ys.getD i .non).getD i .non = ys.getD G[i] .non := by
            simp only [List.getD, List.getElem?_map, List.getElem?_eq_getElem hi']
            rfl
          obtain ⟨_, p, ep, hp⟩ := ar'.item (rgG _ (List.getElem_mem hi'))
          rw [e, ev]
          exact ⟨p, ep, hp⟩
        refine ⟨_, rfl, g, rfl, ⟨_, SqL.of h2⟩, ?_⟩
        refine lcN (srcG H' (Same.refl _)) (by omega) (R := RT2 (gridM G) n) RT2.rnl (by exact fun _ => rfl) ?_ ?_
        · intro a Ha ha sa Qk hq
          refine ⟨_, rfl, g, rfl, ⟨_, SqL.of (sa _ _ h2)⟩, ?_⟩
          refine lcN (srcG Ha sa) (by omega) (R := RI (gridM G a)) RI.rnl (by exact fun _ => rfl) ?_ ?_
          · intro c Hc hc sc Qk2 hq2
            obtain ⟨pa, ea, ha2⟩ := it a ha
            obtain ⟨pc, ec, hc2⟩ := it c hc
            have ta := SqT.of (K := K) (sc _ _ (sa _ _ ha2))
            have tc := SqT.of (K := K) (sc _ _ (sa _ _ hc2))
            refine ⟨_, rfl, pa, _, _, _, ea, rfl, ta, (by exact rfl), _, rfl, pc, _, _, _, ec, rfl, tc, (by exact rfl), _, _, rfl, rfl, _, rfl, ?_⟩
            refine ⟨_, rfl, pa, _, _, _, ea, rfl, ta, (by exact rfl), _, rfl, pc, _, _, _, ec, rfl, tc, (by exact rfl), _, _, rfl, rfl, _, rfl, ?_⟩
            refine ⟨_, _, rfl, rfl, ?_⟩
            exact hq2 _ _ (Same.refl _) rfl
          · intro D1 H2 zs s4 hD0 hD1 ar2
            refine ⟨D1, zs, rfl, .inl ⟨SqL.of hD1, fun l hl => ?_⟩⟩
            exact hq _ _ (s4.trans (Same.upd hl)) ⟨l, zs, rfl, upd_same, ar2.nl RI.rnl (NL.of (Same.upd hl))⟩
        · intro D2 H2 zs s4 hE0 hE1 ar2
          exact q (gridM G) _ _ (s2.same s4) gm ⟨D2, zs, rfl, hE1, ar2⟩
end
end KW
end

section
set_option Elab.async false
set_option linter.all false
set_option maxRecDepth 100000
set_option maxHeartbeats 4000000
set_option exponentiation.threshold 100000
namespace KW
open PySem PySem.Spec PyProof.Rows L2 K38
section
variable {P : Program} {w : World} {K : PySem.W.Frag} {mg : Str → Option Value} {base : Heap} {C : Addr}
abbrev s_levels : Stmt := top 39
abbrev N_levels : List Str := ["_law_state_here", "_law_n", "_law_heights", "_law_k", "_law_words", "_law_rows_here", "_law_one", "_law_row", "_law_two", "_law_apart", "_law_x"]
theorem sc_levels : FnScope N_levels ["_law_state_here", "_law_n"] (defScope s_levels) := ⟨rfl, rfl, rfl, by decide +kernel, rfl, by decide +kernel, by decide +kernel⟩
def lev (h0 h1 h2 : Int) (u w : Nat → Int) : Mi := fun i j => if u i = u j then (if w i = w j then (if i = j then 0 else h0) else h1) else h2
theorem lev_met {n : Nat} {h0 h1 h2 : Int} {u w : Nat → Int} (a : 1 ≤ h0) (b : h0 < h1) (c : h1 < h2) (d : h2 ≤ 100) : IsMet n (lev h0 h1 h2 u w) := by
  unfold lev
  refine ⟨fun x _ => ?_, fun x y _ _ => ?_, fun x y _ _ hne => ?_, fun x y _ _ => ?_, fun x y z _ _ _ => ?_⟩
  · show (if u x = u x then (if w x = w x then (if x = x then (0 : Int) else h0) else h1) else h2) = 0
    rw [if_pos rfl, if_pos rfl, if_pos rfl]
  · show (if u x = u y then (if w x = w y then (if x = y then (0 : Int) else h0) else h1) else h2) = (if u y = u x then (if w y = w x then (if y = x then (0 : Int) else h0) else h1) else h2)
    split <;> split <;> first | omega | (split <;> split <;> first | omega | (split <;> split <;> omega))
  · show 0 < (if u x = u y then (if w x = w y then (if x = y then (0 : Int) else h0) else h1) else h2)
    rw [if_neg hne]
    split
    · split <;> omega
    · omega
  · show (if u x = u y then (if w x = w y then (if x = y then (0 : Int) else h0) else h1) else h2) ≤ 10000
    split
    · split
      · split <;> omega
      · omega
    · omega
  · show (if u x = u z then (if w x = w z then (if x = z then (0 : Int) else h0) else h1) else h2) ≤ (if u x = u y then (if w x = w y then (if x = y then (0 : Int) else h0) else h1) else h2) + (if u y = u z then (if w y = w z then (if y = z then (0 : Int) else h0) else h1) else h2)
    by_cases e1 : u x = u y <;> by_cases e2 : u y = u z <;> by_cases e3 : u x = u z <;> by_cases f1 : w x = w y <;> by_cases f2 : w y = w z <;> by_cases f3 : w x = w z <;> by_cases g1 : x = y <;> by_cases g2 : y = z <;> by_cases g3 : x = z <;>
      simp only [e1, e2, e3, f1, f2, f3, g1, g2, g3, if_true, if_false] <;> omega
def RWd : Rep := fun i v H => ∃ p a b, v = .ref p ∧ H p = some (.tup [.int a, .int b, .int (i : Int)])
theorem RWd.rnl : RNL RWd := fun i v H H' s ⟨p, a, b, e, h⟩ => ⟨p, a, b, e, s _ _ h (fun xs z => by cases z)⟩
def intU : V → Int
  | .int i => i
  | _ => 0
def tupAt (H : Hp) : V → List V
  | .ref p => match H p with
    | some (.tup xs) => xs
    | _ => []
  | _ => []
theorem apart_cases (p : Nat → Bool) : (p 0 = true ∧ ∃ r, (List.range 3).filter p = 0 :: r) ∨ (p 0 = false ∧ p 1 = true ∧ ∃ r, (List.range 3).filter p = 1 :: r) ∨ (p 0 = false ∧ p 1 = false ∧ p 2 = true ∧ (List.range 3).filter p = [2]) ∨ (p 0 = false ∧ p 1 = false ∧ p 2 = false ∧ (List.range 3).filter p = []) := by
  have e : (List.range 3).filter p = [0, 1, 2].filter p := rfl
  rw [e]
  cases h0 : p 0 <;> cases h1 : p 1 <;> cases h2 : p 2 <;> simp [List.filter, h0, h1, h2]
theorem ok_levels {f fT : Addr} {fd fdT : FuncData} (F : Fun K "_law_levels" "_law_levels" s_levels f fd) (B : NM mg) (G_take : FnAt P w K mg base CX0 2 "_law_take" fT fdT ["_law_state_here", "_law_m"] [] spTake) : FnOk P w K mg base CX0 4 f fd ["_law_state_here", "_law_n"] spGen := by
  refine F.ok sc_levels (fun vs H Q E h => ?_) (fun cdv A outer s H vs Q E hr h => ?_)
  · obtain ⟨st, n, rfl, _⟩ := h
    rfl
  · obtain ⟨st, n, rfl, hst, n1, n5, q⟩ := h
    refine ⟨_, (pss_cons (ps_set (i := 2) sc_levels.nd rfl (Or.inl rfl) (pe_lst (pa_cons (pe_op op_add pe_int (pe_call G_take.ok (hr.mono (by decide)) rfl G_take.mgf G_take.kp G_take.b .nil pass0 (pa_cons (pv 0) (pa_cons pe_int pa_nil)))) pa_nil)))
  (pss_cons (ps_for PassesOwn.never rfl (pi_range1 rfl B.range (pa_cons pe_int pa_nil)) (pg_name (i := 3) sc_levels.nd rfl (Or.inl rfl))
  (pss_one (ps_expr (pe_bm PySem.F.plainAttrs_list PySem.F.slot_list_append PySem.F.type_list_append mt_append (pv 2) (pa_cons (pe_op op_add (pe_op op_add (pe_ix ix_list (pv 2) (pe_un un_neg pe_int) (fun _ _ => rfl)) pe_int) (pe_call G_take.ok (hr.mono (by decide)) rfl G_take.mgf G_take.kp G_take.b .nil pass0 (pa_cons (pv 0) (pa_cons pe_int pa_nil)))) pa_nil)))))
  (pss_cons (slcG (ps_setLc (i := 4) (own := [("_law_x", 10)]) (g := gName 10) rfl sc_levels.nd rfl rfl (sw_true rfl rfl rfl (by decide +kernel)) (pi_range1 rfl B.range (pa_cons (pv 1) pa_nil)) (blkOk_by (own := [("_law_x", 10)]) (N := N_levels) (sc := defScope s_levels) (by decide +kernel)) (fun _ _ _ _ _ => (pg_name (i := 10) sc_levels.nd rfl (Or.inl rfl))) (fun _ _ _ _ _ => pts_nil) (fun _ _ _ _ _ => (pe_tup (pa_cons (pe_call G_take.ok (hr.mono (by decide)) rfl G_take.mgf G_take.kp G_take.b .nil pass0 (pa_cons (pv 0) (pa_cons pe_int pa_nil))) (pa_cons (pe_call G_take.ok (hr.mono (by decide)) rfl G_take.mgf G_take.kp G_take.b .nil pass0 (pa_cons (pv 0) (pa_cons pe_int pa_nil))) (pa_cons (pv 10) pa_nil)))))))
  (pss_cons (ps_set (i := 5) sc_levels.nd rfl (Or.inl rfl) (pe_lst pa_nil))
  (pss_cons (ps_for PassesOwn.never rfl (pi_list (pv 4)) (pg_name (i := 6) sc_levels.nd rfl (Or.inr rfl))
  (pss_cons (ps_set (i := 7) sc_levels.nd rfl (Or.inl rfl) (pe_lst pa_nil))
  (pss_cons (ps_for PassesOwn.never rfl (pi_list (pv 4)) (pg_name (i := 8) sc_levels.nd rfl (Or.inr rfl))
  (pss_cons (slcG (ps_setLc (i := 9) (own := [("_law_k", 3)]) (g := gName 3) rfl sc_levels.nd rfl rfl (sw_true rfl rfl rfl (by decide +kernel)) (pi_range1 rfl B.range (pa_cons pe_int pa_nil)) (blkOk_by (own := [("_law_k", 3)]) (N := N_levels) (sc := defScope s_levels) (by decide +kernel)) (fun _ _ _ _ _ => (pg_name (i := 3) sc_levels.nd rfl (Or.inl rfl))) (fun _ _ _ _ _ => (pts_one (pt_cmpR op_ne (pe_ix (ix_tupK K rfl) (pv 6) (pv 3) (fun _ _ => rfl)) (pe_ix (ix_tupK K rfl) (pv 8) (pv 3) (fun _ _ => rfl)) (nomark _)))) (fun _ _ _ _ _ => (pv 3))))
  (pss_one (ps_expr (pe_bm PySem.F.plainAttrs_list PySem.F.slot_list_append PySem.F.type_list_append mt_append (pv 7) (pa_cons (pe_ifExp (pt_cmpR op_eq (pe_callB call_len_seq (by rfl) B.len (by decide +kernel) (pa_cons (pv 9) pa_nil)) pe_int (nomark _)) pe_int (pe_ix ix_list (pv 2) (pe_op op_sub pe_int (pe_ix ix_list (pv 9) pe_int (fun _ _ => rfl))) (fun _ _ => rfl))) pa_nil))))))
  (pss_one (ps_expr (pe_bm PySem.F.plainAttrs_list PySem.F.slot_list_append PySem.F.type_list_append mt_append (pv 5) (pa_cons (pe_callTy call_tuple_of (by rfl) B.tuple (by decide +kernel) (pa_cons (pv 7) pa_nil)) pa_nil)))))))
  (pss_one (ps_ret (pv 5)))))))), ?_⟩
    refine ⟨_, rfl, st, _, rfl, hst, by decide, by decide, fun v H0 v0 v1 s0 => ⟨_, _, rfl, rfl, (by show 1 ≤ sizeLine; decide), fun h hh => ?_⟩⟩
    have hstt : h ≠ st := s0.2.ne hh
    have hH : H h = none := s0.free hh
    refine ⟨2, rfl, by decide, by decide, for_range (lo := 0) (n := (2 : Int).toNat) (fun k σ H' => ∃ (pre : List Int) (z : Int) (c : Option V), σ = [some (.ref st), some (.int (n : Int)), some (.ref h), c, none, none, none, none, none, none, none] ∧ SE st H H' ∧
        H' h = some (.lst ((pre ++ [z]).map V.int)) ∧ pre.length = k ∧ (pre ++ [z]).Pairwise (· < ·) ∧ (∀ x ∈ pre ++ [z], 1 ≤ x) ∧ z ≤ 2 + 3 * k)
      ⟨[], 1 + v, none, rfl, s0.upd hH hstt, upd_same, rfl, by simp, by simp; omega, by omega⟩ ?_ ?_⟩
    · rintro k σ H' hk ⟨pre, z, c, rfl, s1, hL, lp, pw, ge, le⟩
      have eL : (pre ++ [z]).map V.int = pre.map V.int ++ [V.int z] := by rw [List.map_append]; rfl
      rw [eL] at hL
      refine ⟨_, rfl, .inl ⟨rfl, _, SqL.of hL⟩, _, rfl, _, rfl, h, _, _, _, rfl, rfl, SqL.of hL, atI_last _ _, _, _, rfl, rfl, ?_⟩
      refine ⟨_, rfl, st, _, rfl, s1.2, by decide, by decide, fun d H3 d0 d1 s3 => ⟨_, _, rfl, rfl, ?_⟩⟩
      have hL3 := s3.1 _ _ hstt hL
      have z1 := ge z (by simp)
      refine ⟨h, _, _, rfl, rfl, hL3, ?_, pre ++ [z], z + 1 + d, _, rfl, (s1.trans s3).upd hH hstt, ?_, ?_, ?_, ?_, ?_⟩
      · rw [List.length_append, List.length_map, lp]
        exact Nat.lt_of_le_of_lt (show k + 1 ≤ 3 by have : k < 2 := hk; omega) (by decide)
      · rw [upd_same, List.map_append, eL]
        rfl
      · rw [List.length_append, lp]; rfl
      · refine List.pairwise_append.mpr ⟨pw, by simp, fun x hx y hy => ?_⟩
        have ey : y = z + 1 + d := by simpa using hy
        have hxz : x ≤ z := by
          rcases List.mem_append.mp hx with h | h
          · have := (List.pairwise_append.mp pw).2.2 x h z (by simp)
            omega
          · have : x = z := by simpa using h
            omega
        omega
      · intro x hx
        rcases List.mem_append.mp hx with h | h
        · exact ge x h
        · have : x = z + 1 + d := by simpa using h
          omega
      · omega
    · rintro σ H' ⟨pre, z, c, rfl, s1, hL, lp, pw, ge, le⟩
      obtain ⟨a0, a1, rfl⟩ : ∃ a0 a1, pre = [a0, a1] := by
        match pre, lp with
        | [x, y], _ => exact ⟨x, y, rfl⟩
      have hL : H' h = some (.lst [.int a0, .int a1, .int z]) := hL
      have b0 : 1 ≤ a0 := ge a0 (by simp)
      have b1 : a0 < a1 := by
        have := pw
        simp at this
        omega
      have b2 : a1 < z := by
        have := pw
        simp at this
        omega
      have b3 : z ≤ 100 := by omega
      refine ⟨_, rfl, (n : Int), rfl, by omega, by omega, fun D hD => ?_⟩
      have Dst : D ≠ st := s1.2.ne hD
      have hD0 : H D = none := s1.free hD
      have hDh : h ≠ D := ne_of_none hL hD
      refine lc_range (lo := 0) (n := (n : Int).toNat) (fun i H2 => ∃ ys, SE st H H2 ∧ H2 h = some (.lst [.int a0, .int a1, .int z]) ∧ H2 D = some (.lst ys) ∧ Arr RWd i ys H2)
        ⟨[], s1.upd hD0 Dst, by rw [upd_ne hDh]; exact hL, upd_same, Arr.nil⟩ ?_ ?_
      · rintro i H2 hi ⟨ys, s2, hL2, hD2, ar⟩
        refine ⟨rfl, ?_⟩
        refine yes_go ?_
        refine ⟨_, rfl, st, _, rfl, s2.2, by decide, by decide, fun u H3 _ _ s3 => ?_⟩
        refine ⟨_, rfl, st, _, rfl, s3.2, by decide, by decide, fun w H4 _ _ s4 => ?_⟩
        refine ⟨_, rfl, (by show 3 ≤ sizeLine; decide), fun t ht => ?_⟩
        have s24 := (s3.trans s4).same (Same.upd ht (o := .tup [.int u, .int w, .int (0 + (i : Int))]))
        have hD4 := s24.1 _ _ Dst hD2
        refine ⟨ys, hD4, ?_, ys ++ [.ref t], ((s2.trans s24).upd hD0 Dst), ?_, upd_same, ?_⟩
        · rw [ar.1]
          exact Nat.lt_of_le_of_lt (show i ≤ 5 by omega) (by decide)
        · rw [upd_ne hDh]
          exact s24.1 _ _ hstt hL2
        · have nl := NL.upd (o := .lst (ys ++ [.ref t])) hD4
          refine (ar.nl RWd.rnl ((s24.nl s2.2).trans nl)).snoc (RWd.rnl _ _ _ _ nl ⟨t, u, w, rfl, ?_⟩)
          rw [upd_same, Int.zero_add]
      · rintro H2 ⟨ys, s2, hL2, hD2, ar⟩
        have en : (n : Int).toNat = n := by omega
        rw [en] at ar
        refine ⟨Nat.zero_le _, fun g hg => ?_⟩
        have sg : Same H2 (upd H2 g (.lst [])) := Same.upd hg
        let u : Nat → Int := fun i => intU ((tupAt H2 (ys.getD i .non)).getD 0 .non)
        let w : Nat → Int := fun i => intU ((tupAt H2 (ys.getD i .non)).getD 1 .non)
        have it : ∀ i, i < n → ∃ p, ys.getD i .non = .ref p ∧ H2 p = some (.tup [.int (u i), .int (w i), .int (i : Int)]) := fun i hi => by
          obtain ⟨_, p, a, b, ep, hp⟩ := ar.item hi
          have et : tupAt H2 (ys.getD i .non) = [.int a, .int b, .int (i : Int)] := by
            rw [ep]
            show (match H2 p with | some (.tup xs) => xs | _ => []) = _
            rw [hp]
          have eu : u i = a := by show intU ((tupAt H2 (ys.getD i .non)).getD 0 .non) = a; rw [et]; rfl
          have ew : w i = b := by show intU ((tupAt H2 (ys.getD i .non)).getD 1 .non) = b; rw [et]; rfl
          rw [eu, ew]
          exact ⟨p, ep, hp⟩
        clear_value u w
        have met : IsMet n (lev a0 a1 z u w) := lev_met b0 b1 b2 b3
        have g0 : H2 g = none := hg
        have Hg := s2.free g0
        have ylen := ar.1
        refine ⟨_, rfl, D, rfl, ⟨_, SqL.of (sg _ _ hD2)⟩, for_list (K := K) (a := D) (xs := ys) (fun i σ H' => ∃ (a6 a7 a8 a9 : Option V) (vs : List V), σ = [some (.ref st), some (.int (n : Int)), some (.ref h), c, some (.ref D), some (.ref g), a6, a7, a8, a9, none] ∧ Same H2 H' ∧ H' g = some (.lst vs) ∧ Arr (RT2 (lev a0 a1 z u w) n) i vs H')
          ⟨none, none, none, none, [], rfl, sg, upd_same, Arr.nil⟩ (fun i σ H' _ ⟨_, _, _, _, _, _, s3, _⟩ => SqL.of (s3 _ _ hD2)) ?_ ?_⟩
        · rintro i y σ H3 hi ⟨a6, a7, a8, a9, vs, rfl, s3, hg3, ar3⟩
          have hin : i < n := by rw [← ylen]; exact (List.getElem?_eq_some_iff.mp hi).1
          obtain ⟨p1, ep1, hp1⟩ := it i hin
          have ey : y = .ref p1 := by
            rw [← ep1]
            simp only [List.getD, hi]
            rfl
          subst ey
          refine ⟨Nat.zero_le _, fun rw_ hrw => ?_⟩
          have srw : Same H3 (upd H3 rw_ (.lst [])) := Same.upd hrw
          have grw : g ≠ rw_ := ne_of_none hg3 hrw
          refine ⟨_, rfl, D, rfl, ⟨_, SqL.of (srw _ _ (s3 _ _ hD2))⟩, for_list (K := K) (a := D) (xs := ys) (fun j σ H' => ∃ (a8 a9 : Option V), σ = [some (.ref st), some (.int (n : Int)), some (.ref h), c, some (.ref D), some (.ref g), some (.ref p1), some (.ref rw_), a8, a9, none] ∧ Same H3 H' ∧ H' rw_ = some (.lst (rowI j (lev a0 a1 z u w i))))
            ⟨a8, a9, rfl, srw, upd_same⟩ (fun j σ H' _ ⟨_, _, _, s4, _⟩ => SqL.of (s4 _ _ (s3 _ _ hD2))) ?_ ?_⟩
          · rintro j y σ H4 hj ⟨a8, a9, rfl, s4, hr4⟩
            have hjn : j < n := by rw [← ylen]; exact (List.getElem?_eq_some_iff.mp hj).1
            obtain ⟨p2, ep2, hp2⟩ := it j hjn
            have ey : y = .ref p2 := by
              rw [← ep2]
              simp only [List.getD, hj]
              rfl
            subst ey
            have t1 : H4 p1 = _ := s4 _ _ (s3 _ _ hp1)
            have t2 : H4 p2 = _ := s4 _ _ (s3 _ _ hp2)
            refine ⟨3, rfl, by decide, by decide, ?_⟩
            let pf : Nat → Bool := fun k => match k with
              | 0 => !decide (V.int (u i) = V.int (u j))
              | 1 => !decide (V.int (w i) = V.int (w j))
              | _ => !decide (V.int (i : Int) = V.int (j : Int))
            refine lcF (src_range (lo := 0) (n := 3)) (by decide) pf (by exact fun _ => rfl) ?_ ?_ ?_
            · intro k Hk hk sk Qb hq
              have t1k := SqT.of (K := K) (sk _ _ t1)
              have t2k := SqT.of (K := K) (sk _ _ t2)
              match k, hk with
              | 0, _ => exact ⟨_, rfl, _, rfl, p1, _, _, _, rfl, rfl, t1k, (by exact rfl), _, rfl, _, rfl, p2, _, _, _, rfl, rfl, t2k, (by exact rfl), rfl, _, rfl, hq _ (Same.refl _)⟩
              | 1, _ => exact ⟨_, rfl, _, rfl, p1, _, _, _, rfl, rfl, t1k, (by exact rfl), _, rfl, _, rfl, p2, _, _, _, rfl, rfl, t2k, (by exact rfl), rfl, _, rfl, hq _ (Same.refl _)⟩
              | 2, _ => exact ⟨_, rfl, _, rfl, p1, _, _, _, rfl, rfl, t1k, (by exact rfl), _, rfl, _, rfl, p2, _, _, _, rfl, rfl, t2k, (by exact rfl), rfl, _, rfl, hq _ (Same.refl _)⟩
              | k + 3, hh => exact absurd hh (by omega)
            · intro k Hk hk sk Qk hq
              exact ⟨_, rfl, hq⟩
            · intro A H5 s5 hA0 hA
              have hr5 := s5 _ _ hr4
              have hh5 : H5 h = _ := s5 _ _ (s4 _ _ (s3 _ _ hL2))
              have fin : ∀ x : Int, x = lev a0 a1 z u w i j → ∃ l xs y, V.ref rw_ = V.ref l ∧ [V.int x] = [y] ∧ H5 l = some (.lst xs) ∧ xs.length < sizeLine ∧ (∃ (b8 b9 : Option V), [some (.ref st), some (.int (n : Int)), some (.ref h), c, some (.ref D), some (.ref g), some (.ref p1), some (.ref rw_), some (V.ref p2), some (V.ref A), none] = [some (.ref st), some (.int (n : Int)), some (.ref h), c, some (.ref D), some (.ref g), some (.ref p1), some (.ref rw_), b8, b9, none] ∧ Same H3 (upd H5 l (.lst (xs ++ [y]))) ∧ upd H5 l (.lst (xs ++ [y])) rw_ = some (.lst (rowI (j + 1) (lev a0 a1 z u w i)))) := fun x ex => by
                refine ⟨rw_, _, _, rfl, rfl, hr5, ?_, _, _, rfl, Same.upd' (s4.trans s5) hrw, ?_⟩
                · rw [rowI_len]
                  exact Nat.lt_of_le_of_lt (show j ≤ 5 by omega) (by decide)
                · rw [upd_same, ex]
                  unfold rowI
                  rw [List.range_succ, List.map_append]
                  rfl
              refine ⟨_, rfl, .inl ⟨rfl, _, SqL.of hr5⟩, ?_⟩
              rcases apart_cases pf with ⟨c0, r, er⟩ | ⟨c0, c1, r, er⟩ | ⟨c0, c1, c2, er⟩ | ⟨c0, c1, c2, er⟩
              · rw [er] at hA
                refine ⟨_, rfl, A, _, rfl, .inl (SqL.of hA), rfl, _, rfl, decF (by intro e; injection e with e; simp at e; omega) ?_⟩
                have q0 : atI (List.map (fun (i : Nat) => V.int (0 + (i : Int))) (0 :: r)) (0 : Int) = some (V.int (0 + ((0 : Nat) : Int))) := atI_nat (j := 0) rfl
                have q1 : atI [V.int a0, V.int a1, V.int z] ((2 : Int) - (0 + ((0 : Nat) : Int))) = some (.int z) := rfl
                refine ⟨_, rfl, _, rfl, A, _, _, _, rfl, rfl, SqL.of hA, q0, _, _, rfl, rfl, h, _, _, _, rfl, rfl, SqL.of hh5, q1, ?_⟩
                have hne : u i ≠ u j := fun e => by
                  have : pf 0 = false := by show (!decide (V.int (u i) = V.int (u j))) = false; rw [e]; simp
                  rw [this] at c0; cases c0
                exact fin z (by unfold lev; rw [if_neg hne])
              · rw [er] at hA
                refine ⟨_, rfl, A, _, rfl, .inl (SqL.of hA), rfl, _, rfl, decF (by intro e; injection e with e; simp at e; omega) ?_⟩
                have q0 : atI (List.map (fun (i : Nat) => V.int (0 + (i : Int))) (1 :: r)) (0 : Int) = some (V.int (0 + ((1 : Nat) : Int))) := atI_nat (j := 0) rfl
                have q1 : atI [V.int a0, V.int a1, V.int z] ((2 : Int) - (0 + ((1 : Nat) : Int))) = some (.int a1) := rfl
                refine ⟨_, rfl, _, rfl, A, _, _, _, rfl, rfl, SqL.of hA, q0, _, _, rfl, rfl, h, _, _, _, rfl, rfl, SqL.of hh5, q1, ?_⟩
                have he : u i = u j := by
                  have : (!decide (V.int (u i) = V.int (u j))) = false := c0
                  have := of_decide_eq_true (by simpa using this : decide (V.int (u i) = V.int (u j)) = true)
                  injection this
                have hne : w i ≠ w j := fun e => by
                  have : pf 1 = false := by show (!decide (V.int (w i) = V.int (w j))) = false; rw [e]; simp
                  rw [this] at c1; cases c1
                exact fin a1 (by unfold lev; rw [if_pos he, if_neg hne])
              · rw [er] at hA
                refine ⟨_, rfl, A, _, rfl, .inl (SqL.of hA), rfl, _, rfl, decF (by intro e; injection e with e; simp at e) ?_⟩
                refine ⟨_, rfl, _, rfl, A, _, _, _, rfl, rfl, SqL.of hA, (by exact rfl), _, _, rfl, rfl, h, _, _, _, rfl, rfl, SqL.of hh5, (by exact rfl), ?_⟩
                have he : u i = u j := by
                  have : (!decide (V.int (u i) = V.int (u j))) = false := c0
                  have := of_decide_eq_true (by simpa using this : decide (V.int (u i) = V.int (u j)) = true)
                  injection this
                have he2 : w i = w j := by
                  have : (!decide (V.int (w i) = V.int (w j))) = false := c1
                  have := of_decide_eq_true (by simpa using this : decide (V.int (w i) = V.int (w j)) = true)
                  injection this
                have hne : i ≠ j := fun e => by
                  have : pf 2 = false := by show (!decide (V.int (i : Int) = V.int (j : Int))) = false; rw [e]; simp
                  rw [this] at c2; cases c2
                exact fin a0 (by unfold lev; rw [if_pos he, if_pos he2, if_neg hne])
              · rw [er] at hA
                refine ⟨_, rfl, A, _, rfl, .inl (SqL.of hA), rfl, _, rfl, decT rfl ?_⟩
                have he : u i = u j := by
                  have : (!decide (V.int (u i) = V.int (u j))) = false := c0
                  have := of_decide_eq_true (by simpa using this : decide (V.int (u i) = V.int (u j)) = true)
                  injection this
                have he2 : w i = w j := by
                  have : (!decide (V.int (w i) = V.int (w j))) = false := c1
                  have := of_decide_eq_true (by simpa using this : decide (V.int (w i) = V.int (w j)) = true)
                  injection this
                have he3 : i = j := by
                  have : (!decide (V.int (i : Int) = V.int (j : Int))) = false := c2
                  have := of_decide_eq_true (by simpa using this : decide (V.int (i : Int) = V.int (j : Int)) = true)
                  injection this with e
                  omega
                exact fin 0 (by unfold lev; rw [if_pos he, if_pos he2, if_pos he3])
          · rintro σ H4 ⟨a8, a9, rfl, s4, hr4⟩
            rw [ylen] at hr4
            have hg4 := s4 _ _ hg3
            refine ⟨_, rfl, .inl ⟨rfl, _, SqL.of hg4⟩, _, rfl, rw_, _, rfl, .inl ⟨SqL.of hr4, fun t ht => ?_⟩⟩
            have gt : g ≠ t := ne_of_none hg4 ht
            refine ⟨g, vs, _, rfl, rfl, by rw [upd_ne gt]; exact hg4, ?_, _, _, _, _, _, rfl, Same.upd' ((s3.trans s4).trans (Same.upd ht)) g0, upd_same, ?_⟩
            · rw [ar3.1]
              exact Nat.lt_of_le_of_lt (show i ≤ 5 by omega) (by decide)
            · have nl := NL.upd (H := upd H4 t (.tup (rowI n (lev a0 a1 z u w i)))) (D := g) (xs := vs) (o := .lst (vs ++ [.ref t])) (by rw [upd_ne gt]; exact hg4)
              refine (ar3.nl RT2.rnl ((NL.of (s4.trans (Same.upd ht))).trans nl)).snoc (RT2.rnl _ _ _ _ nl ⟨t, _, rfl, upd_same, rowI_arr⟩)
        · rintro σ H3 ⟨a6, a7, a8, a9, vs, rfl, s3, hg3, ar3⟩
          rw [ylen] at ar3
          refine ⟨_, rfl, q _ _ _ (s2.same s3) met ⟨g, vs, rfl, hg3, ar3⟩⟩
end
end KW
end

section
set_option Elab.async false
set_option linter.all false
set_option maxRecDepth 100000
set_option maxHeartbeats 4000000
set_option exponentiation.threshold 100000
namespace KW
open PySem PySem.Spec PyProof.Rows L2 K38
section
variable {P : Program} {w : World} {K : PySem.W.Frag} {mg : Str → Option Value} {base : Heap} {C : Addr}
abbrev s_rows : Stmt := top 40
abbrev N_rows : List Str := ["_law_state_here", "_law_most", "_law_n", "_law_pick"]
theorem sc_rows : FnScope N_rows ["_law_state_here", "_law_most"] (defScope s_rows) := ⟨rfl, rfl, rfl, by decide +kernel, rfl, by decide +kernel, by decide +kernel⟩
theorem ok_rows {f fT fW fF fG fB fL : Addr} {fd fdT fdW fdF fdG fdB fdL : FuncData} (F : Fun K "_law_rows" "_law_rows" s_rows f fd) (B : NM mg) (G_take : FnAt P w K mg base CX0 2 "_law_take" fT fdT ["_law_state_here", "_law_m"] [] spTake)
    (G_web : FnAt P w K mg base CX0 4 "_law_web" fW fdW ["_law_state_here", "_law_n", "_law_thick"] [] spWeb) (G_of_tree : FnAt P w K mg base CX0 6 "_law_of_tree" fF fdF ["_law_state_here", "_law_n"] [] spGen)
    (G_grid : FnAt P w K mg base CX0 4 "_law_grid" fG fdG ["_law_state_here", "_law_n"] [] spGen) (G_band : FnAt P w K mg base CX0 4 "_law_band" fB fdB ["_law_state_here", "_law_n"] [] spGen) (G_levels : FnAt P w K mg base CX0 4 "_law_levels" fL fdL ["_law_state_here", "_law_n"] [] spGen) :
    FnOk P w K mg base CX0 8 f fd ["_law_state_here", "_law_most"] spRows := by
  refine F.ok sc_rows (fun vs H Q E h => ?_) (fun cdv A outer s H vs Q E hr h => ?_)
  · obtain ⟨st, rfl, _⟩ := h
    rfl
  · obtain ⟨st, rfl, hst, q⟩ := h
    refine ⟨_, (pss_cons (ps_set (i := 2) sc_rows.nd rfl (Or.inl rfl) (pe_op op_add pe_int (pe_call G_take.ok (hr.mono (by decide)) rfl G_take.mgf G_take.kp G_take.b .nil pass0 (pa_cons (pv 0) (pa_cons (pv 1) pa_nil)))))
  (pss_cons (ps_set (i := 3) sc_rows.nd rfl (Or.inl rfl) (pe_call G_take.ok (hr.mono (by decide)) rfl G_take.mgf G_take.kp G_take.b .nil pass0 (pa_cons (pv 0) (pa_cons pe_int pa_nil))))
  (pss_cons (ps_if (pt_cmpR op_eq (pv 3) pe_int (nomark _)) (pss_one (ps_ret (pe_call G_web.ok (hr.mono (by decide)) rfl G_web.mgf G_web.kp G_web.b .nil pass0 (pa_cons (pv 0) (pa_cons (pv 2) (pa_cons pe_int pa_nil)))))) pss_nil)
  (pss_cons (ps_if (pt_cmpR op_eq (pv 3) pe_int (nomark _)) (pss_one (ps_ret (pe_call G_web.ok (hr.mono (by decide)) rfl G_web.mgf G_web.kp G_web.b .nil pass0 (pa_cons (pv 0) (pa_cons (pv 2) (pa_cons pe_int pa_nil)))))) pss_nil)
  (pss_cons (ps_if (pt_cmpR op_eq (pv 3) pe_int (nomark _)) (pss_one (ps_ret (pe_call G_of_tree.ok (hr.mono (by decide)) rfl G_of_tree.mgf G_of_tree.kp G_of_tree.b .nil pass0 (pa_cons (pv 0) (pa_cons (pv 2) pa_nil))))) pss_nil)
  (pss_cons (ps_if (pt_cmpR op_eq (pv 3) pe_int (nomark _)) (pss_one (ps_ret (pe_call G_grid.ok (hr.mono (by decide)) rfl G_grid.mgf G_grid.kp G_grid.b .nil pass0 (pa_cons (pv 0) (pa_cons (pv 2) pa_nil))))) pss_nil)
  (pss_cons (ps_if (pt_cmpR op_eq (pv 3) pe_int (nomark _)) (pss_one (ps_ret (pe_call G_band.ok (hr.mono (by decide)) rfl G_band.mgf G_band.kp G_band.b .nil pass0 (pa_cons (pv 0) (pa_cons (pv 2) pa_nil))))) pss_nil)
  (pss_one (ps_ret (pe_call G_levels.ok (hr.mono (by decide)) rfl G_levels.mgf G_levels.kp G_levels.b .nil pass0 (pa_cons (pv 0) (pa_cons (pv 2) pa_nil)))))))))))), ?_⟩
    refine ⟨_, rfl, _, rfl, st, _, rfl, hst, by decide, by decide, fun v H1 v0 v1 s1 => ⟨_, _, rfl, rfl, ?_⟩⟩
    dsimp only
    have en : (1 : Int) + v = ((1 + v.toNat : Nat) : Int) := by omega
    rw [en]
    have n1 : 1 ≤ 1 + v.toNat := by omega
    have n5 : 1 + v.toNat ≤ 5 := by omega
    generalize 1 + v.toNat = n at *
    refine ⟨_, rfl, st, _, rfl, s1.2, by decide, by decide, fun p H2 _ _ s2 => ?_⟩
    have q2 := q n n1 n5
    have out : OutRows st n H2 Q := fun D u H3 s3 met hu => q2 D u H3 ((s1.trans s2).trans s3) met hu
    refine ⟨_, rfl, rfl, _, rfl, bin2 (fun _ => ?_) fun _ => ?_⟩
    · exact ⟨_, rfl, _, rfl, st, n, _, rfl, s2.2, n1, n5, by decide, by decide, out⟩
    refine ⟨_, rfl, rfl, _, rfl, bin2 (fun _ => ?_) fun _ => ?_⟩
    · exact ⟨_, rfl, _, rfl, st, n, _, rfl, s2.2, n1, n5, by decide, by decide, out⟩
    refine ⟨_, rfl, rfl, _, rfl, bin2 (fun _ => ?_) fun _ => ?_⟩
    · exact ⟨_, rfl, _, rfl, st, n, rfl, s2.2, n1, n5, out⟩
    refine ⟨_, rfl, rfl, _, rfl, bin2 (fun _ => ?_) fun _ => ?_⟩
    · exact ⟨_, rfl, _, rfl, st, n, rfl, s2.2, n1, n5, out⟩
    refine ⟨_, rfl, rfl, _, rfl, bin2 (fun _ => ?_) fun _ => ?_⟩
    · exact ⟨_, rfl, _, rfl, st, n, rfl, s2.2, n1, n5, out⟩
    exact ⟨_, rfl, _, rfl, st, n, rfl, s2.2, n1, n5, out⟩
end
end KW
end

section
set_option Elab.async false
set_option linter.all false
set_option maxRecDepth 100000
set_option maxHeartbeats 4000000
set_option exponentiation.threshold 100000
namespace KW
open PySem PySem.Spec PyProof.Rows L2 K38
section
variable {P : Program} {w : World} {K : PySem.W.Frag} {mg : Str → Option Value} {base : Heap} {C : Addr}
theorem MQ.at {G : Mx} {n m : Nat} {v : V} {H : Hp} (h : MQ C G n m v H) : ∃ p vs, v = .ref p ∧ H p = some (.tup vs) ∧ vs.length = n ∧ ∀ i, i < n → ∃ q us, vs[i]? = some (.ref q) ∧ H q = some (.tup us) ∧ us.length = m ∧ ∀ j, j < m → ∃ x, us[j]? = some x ∧ IsR C (G i j) x H := by
  obtain ⟨p, vs, e, hp, a⟩ := h
  refine ⟨p, vs, e, hp, a.1, fun i hi => ?_⟩
  obtain ⟨u, e1, q, us, rfl, hq, b⟩ := a.get hi
  exact ⟨q, us, e1, hq, b.1, fun j hj => b.get hj⟩
theorem LQ.at {G : Mx} {n m : Nat} {v : V} {H : Hp} (h : LQ C G n m v H) : ∃ p vs, v = .ref p ∧ H p = some (.lst vs) ∧ vs.length = n ∧ ∀ i, i < n → ∃ q us, vs[i]? = some (.ref q) ∧ H q = some (.lst us) ∧ us.length = m ∧ ∀ j, j < m → ∃ x, us[j]? = some x ∧ IsR C (G i j) x H := by
  obtain ⟨p, vs, e, hp, a⟩ := h
  refine ⟨p, vs, e, hp, a.1, fun i hi => ?_⟩
  obtain ⟨u, e1, q, us, rfl, hq, b⟩ := a.get hi
  exact ⟨q, us, e1, hq, b.1, fun j hj => b.get hj⟩
theorem IsR.same {q : Rat} {v : V} {H H' : Hp} (h : IsR C q v H) (s : Same H H') : IsR C q v H' := IsR.nl (NL.of s) h
theorem kit_lt : PySem.W.kitAny K (.type "tuple") [.type "list", .type "tuple"] = some true :=
  kitAny_cons (b := false) (kit_ty (by decide +kernel)) (fun _ => kitAny_cons (b := true) (kit_ty (by decide +kernel)) (fun z => by cases z) (fun _ => rfl)) (fun z => by cases z)
end
end KW
end

section
set_option Elab.async false
set_option linter.all false
set_option maxRecDepth 100000
set_option maxHeartbeats 4000000
set_option exponentiation.threshold 100000
namespace KW
open PySem PySem.Spec PyProof.Rows L2 K38
section
variable {P : Program} {w : World} {K : PySem.W.Frag} {mg : Str → Option Value} {base : Heap} {C : Addr}
abbrev s_zero : Stmt := top 10
abbrev N_zero : List Str := []
theorem sc_zero : FnScope N_zero [] (defScope s_zero) := ⟨rfl, rfl, rfl, by decide +kernel, rfl, by decide +kernel, by decide +kernel⟩
theorem ok_zero {f : Addr} {fd : FuncData} (F : Fun K "zero" "zero" s_zero f fd) (T : RO P w K mg base C) : FnOk P w K mg base CX0 4 f fd [] (spZero C) := by
  refine F.ok sc_zero (fun vs H Q E h => ?_) (fun cdv A outer s H vs Q E hr h => ?_)
  · obtain ⟨rfl, _⟩ := h
    rfl
  · obtain ⟨rfl, q⟩ := h
    refine ⟨_, (pss_one (ps_ret (T.pe_mk1 hr (pa_cons pe_int pa_nil)))), ?_⟩
    exact ⟨_, rfl, fun v H1 s1 r => q v H1 s1 r⟩
abbrev s_is_rational : Stmt := top 11
abbrev N_is_rational : List Str := ["value"]
theorem sc_is_rational : FnScope N_is_rational ["value"] (defScope s_is_rational) := ⟨rfl, rfl, rfl, by decide +kernel, rfl, by decide +kernel, by decide +kernel⟩
theorem ok_israt {f : Addr} {fd : FuncData} (F : Fun K "is_rational" "is_rational" s_is_rational f fd) (T : RO P w K mg base C) : FnOk P w K mg base CX0 4 f fd ["value"] (spIsRat C) := by
  refine F.ok sc_is_rational (fun vs H Q E h => ?_) (fun cdv A outer s H vs Q E hr h => ?_)
  · obtain ⟨v, a, rfl, _⟩ := h
    rfl
  · obtain ⟨v, a, rfl, ⟨p, dx, rfl, hp⟩, q⟩ := h
    refine ⟨_, (pss_one (ps_ret (pe_or (pe_callB (C8.call_isC T.ic) (by rfl) T.isi (by decide +kernel) (pa_cons (pv 0) (pa_cons (pe_glob (v := .ref C) rfl T.mgC rfl) pa_nil))) (pe_one pe_never)))), ?_⟩
    exact ⟨_, rfl, _, _, _, rfl, hp, _, rfl, iteT q⟩
abbrev s_as_ratio : Stmt := top 12
abbrev N_as_ratio : List Str := ["value"]
theorem sc_as_ratio : FnScope N_as_ratio ["value"] (defScope s_as_ratio) := ⟨rfl, rfl, rfl, by decide +kernel, rfl, by decide +kernel, by decide +kernel⟩
theorem ok_asr {f : Addr} {fd : FuncData} (F : Fun K "as_ratio" "as_ratio" s_as_ratio f fd) (T : RO P w K mg base C) : FnOk P w K mg base CX0 4 f fd ["value"] (spAsR C) := by
  refine F.ok sc_as_ratio (fun vs H Q E h => ?_) (fun cdv A outer s H vs Q E hr h => ?_)
  · obtain ⟨v, a, rfl, _⟩ := h
    rfl
  · obtain ⟨v, a, rfl, ⟨p, dx, rfl, hp⟩, q⟩ := h
    refine ⟨_, (pss_cons (ps_if (pt_val (pe_callB (C8.call_isC T.ic) (by rfl) T.isi (by decide +kernel) (pa_cons (pv 0) (pa_cons (pe_glob (v := .ref C) rfl T.mgC rfl) pa_nil)))) (pss_one (ps_ret (pv 0))) pss_nil)
  (pss_cons (ps_if (pt_not (pt_val pe_never)) (pss_one ps_never) pss_nil)
  (pss_one (ps_ret (T.pe_mk1 hr (pa_cons (pv 0) pa_nil)))))), ?_⟩
    exact ⟨_, rfl, _, _, _, rfl, hp, _, rfl, iteT ⟨_, rfl, q⟩⟩
abbrev s_keeps_triangles : Stmt := top 26
abbrev N_keeps_triangles : List Str := ["rows", "n", "x", "y", "z"]
theorem sc_keeps_triangles : FnScope N_keeps_triangles ["rows"] (defScope s_keeps_triangles) := ⟨rfl, rfl, rfl, by decide +kernel, rfl, by decide +kernel, by decide +kernel⟩
theorem ok_tri {f : Addr} {fd : FuncData} (F : Fun K "keeps_triangles" "keeps_triangles" s_keeps_triangles f fd) (T : RO P w K mg base C) (B : NM mg) : FnOk P w K mg base CX0 10 f fd ["rows"] (spTri C) := by
  refine F.ok sc_keeps_triangles (fun vs H Q E h => ?_) (fun cdv A outer s H vs Q E hr h => ?_)
  · obtain ⟨v, n, r, rfl, _⟩ := h
    rfl
  · obtain ⟨v, n, r, rfl, hM, n8, met, q⟩ := h
    refine ⟨_, (pss_cons (ps_set (i := 1) sc_keeps_triangles.nd rfl (Or.inl rfl) (pe_callB call_len_seq (by rfl) B.len (by decide +kernel) (pa_cons (pv 0) pa_nil)))
  (pss_cons (ps_for PassesOwn.never rfl (pi_range1 rfl B.range (pa_cons (pv 1) pa_nil)) (pg_name (i := 2) sc_keeps_triangles.nd rfl (Or.inl rfl))
  (pss_cons (ps_if (pt_not (pt_val (T.pe_is_zero hr (pe_ix ix_tup (pe_ix ix_tup (pv 0) (pv 2) (fun _ _ => rfl)) (pv 2) (fun _ _ => rfl))))) (pss_one (ps_ret pe_bl)) pss_nil)
  (pss_one (ps_for PassesOwn.never rfl (pi_range1 rfl B.range (pa_cons (pv 1) pa_nil)) (pg_name (i := 3) sc_keeps_triangles.nd rfl (Or.inl rfl))
  (pss_cons (ps_if (pt_cmpR (T.opNe hr) (pe_ix ix_tup (pe_ix ix_tup (pv 0) (pv 2) (fun _ _ => rfl)) (pv 3) (fun _ _ => rfl)) (pe_ix ix_tup (pe_ix ix_tup (pv 0) (pv 3) (fun _ _ => rfl)) (pv 2) (fun _ _ => rfl)) (nomark _)) (pss_one (ps_ret pe_bl)) pss_nil)
  (pss_one (ps_for PassesOwn.never rfl (pi_range1 rfl B.range (pa_cons (pv 1) pa_nil)) (pg_name (i := 4) sc_keeps_triangles.nd rfl (Or.inl rfl))
  (pss_one (ps_if (pt_cmpR op_lt (T.pe_sign hr (pe_op (T.opSub hr) (pe_op (T.opAdd hr) (pe_ix ix_tup (pe_ix ix_tup (pv 0) (pv 2) (fun _ _ => rfl)) (pv 3) (fun _ _ => rfl)) (pe_ix ix_tup (pe_ix ix_tup (pv 0) (pv 3) (fun _ _ => rfl)) (pv 4) (fun _ _ => rfl))) (pe_ix ix_tup (pe_ix ix_tup (pv 0) (pv 2) (fun _ _ => rfl)) (pv 4) (fun _ _ => rfl)))) pe_int (nomark _)) (pss_one (ps_ret pe_bl)) pss_nil)))))))))
  (pss_one (ps_ret pe_bl)))), ?_⟩
    obtain ⟨p, vs, rfl, hp, hl, row⟩ := hM.at
    have en : (n : Int).toNat = n := by omega
    refine ⟨_, rfl, p, _, rfl, .inr (SqT.of hp), ?_⟩
    rw [hl]
    refine ⟨_, rfl, (n : Int), rfl, by omega, by omega, for_range (lo := 0) (n := (n : Int).toNat) (fun x σ H' => ∃ (a b c : Option V), σ = [some (.ref p), some (.int (n : Int)), a, b, c] ∧ Same H H') ⟨none, none, none, rfl, Same.refl H⟩ ?_ ?_⟩
    · rintro x σ H1 hx ⟨a, b, c, rfl, s1⟩
      have hxn : x < n := by omega
      rw [Int.zero_add]
      obtain ⟨px, ux, ex, hpx, lx, itx⟩ := row x hxn
      obtain ⟨vxx, exx, rxx⟩ := itx x hxn
      refine ⟨_, rfl, _, rfl, p, _, _, _, rfl, rfl, SqT.of (s1 _ _ hp), atI_nat ex, _, rfl, px, _, _, _, rfl, rfl, SqT.of (s1 _ _ hpx), atI_nat exx, ?_⟩
      refine ⟨_, rxx.same s1, fun H2 s2 => ?_⟩
      rw [met.zero x hxn]
      refine ⟨_, rfl, iteF ?_⟩
      have s12 := s1.trans s2
      refine ⟨_, rfl, (n : Int), rfl, by omega, by omega, for_range (lo := 0) (n := (n : Int).toNat) (fun y σ H' => ∃ (b c : Option V), σ = [some (.ref p), some (.int (n : Int)), some (.int (x : Int)), b, c] ∧ Same H H') ⟨b, c, rfl, s12⟩ ?_ ?_⟩
      · rintro y σ H3 hy ⟨b, c, rfl, s3⟩
        have hyn : y < n := by omega
        rw [Int.zero_add]
        obtain ⟨py, uy, ey, hpy, ly, ity⟩ := row y hyn
        obtain ⟨vxy, exy, rxy⟩ := itx y hyn
        obtain ⟨vyx, eyx, ryx⟩ := ity x hxn
        rw [← met.sy x y hxn hyn] at ryx
        refine ⟨_, rfl, _, rfl, p, _, _, _, rfl, rfl, SqT.of (s3 _ _ hp), atI_nat ex, _, rfl, px, _, _, _, rfl, rfl, SqT.of (s3 _ _ hpx), atI_nat exy, ?_⟩
        refine ⟨_, rfl, _, rfl, p, _, _, _, rfl, rfl, SqT.of (s3 _ _ hp), atI_nat ey, _, rfl, py, _, _, _, rfl, rfl, SqT.of (s3 _ _ hpy), atI_nat eyx, ?_⟩
        refine ⟨_, rxy.same s3, ryx.same s3, fun H4 s4 => ⟨_, rfl, iteF ?_⟩⟩
        have s34 := s3.trans s4
        refine ⟨_, rfl, (n : Int), rfl, by omega, by omega, for_range (lo := 0) (n := (n : Int).toNat) (fun z σ H' => ∃ (c : Option V), σ = [some (.ref p), some (.int (n : Int)), some (.int (x : Int)), some (.int (y : Int)), c] ∧ Same H H') ⟨c, rfl, s34⟩ ?_ ?_⟩
        · rintro z σ H5 hz ⟨c, rfl, s5⟩
          have hzn : z < n := by omega
          rw [Int.zero_add]
          obtain ⟨vyz, eyz, ryz⟩ := ity z hzn
          obtain ⟨vxz, exz, rxz⟩ := itx z hzn
          refine ⟨_, rfl, _, rfl, p, _, _, _, rfl, rfl, SqT.of (s5 _ _ hp), atI_nat ex, _, rfl, px, _, _, _, rfl, rfl, SqT.of (s5 _ _ hpx), atI_nat exy, ?_⟩
          refine ⟨_, rfl, _, rfl, p, _, _, _, rfl, rfl, SqT.of (s5 _ _ hp), atI_nat ey, _, rfl, py, _, _, _, rfl, rfl, SqT.of (s5 _ _ hpy), atI_nat eyz, ?_⟩
          have z1 := met.sz x y hxn hyn
          have z2 := met.sz y z hyn hzn
          have z3 := met.sz x z hxn hzn
          refine ⟨_, _, rxy.same s5, ryz.same s5, bigR_of z1 z2 (by decide) (by decide) (by decide), fun v6 H6 s6 r6 => ?_⟩
          have s56 := s5.trans s6
          refine ⟨_, rfl, _, rfl, p, _, _, _, rfl, rfl, SqT.of (s56 _ _ hp), atI_nat ex, _, rfl, px, _, _, _, rfl, rfl, SqT.of (s56 _ _ hpx), atI_nat exz, ?_⟩
          refine ⟨_, _, r6, rxz.same s56, bigR_of (sz_add (e := 20) z1 z2 (by decide) (by decide)) z3 (by decide) (by decide) (by decide), fun v7 H7 s7 r7 => ?_⟩
          refine ⟨_, r7, fun H8 s8 => ⟨_, _, rfl, rfl, _, rfl, decF ?_ ⟨_, rfl, (s56.trans s7).trans s8⟩⟩⟩
          have t := met.tri x y z hxn hyn hzn
          have := @sgn_neg (r x y + r y z - r x z)
          intro h
          have := this.mp h
          grind
        · rintro σ H5 ⟨c, rfl, s5⟩
          exact ⟨_, _, rfl, s5⟩
      · rintro σ H3 ⟨b, c, rfl, s3⟩
        exact ⟨_, _, _, rfl, s3⟩
    · rintro σ H1 ⟨a, b, c, rfl, s1⟩
      exact q H1 s1
abbrev s_is_apart : Stmt := top 27
abbrev N_is_apart : List Str := ["rows", "x", "y"]
theorem sc_is_apart : FnScope N_is_apart ["rows"] (defScope s_is_apart) := ⟨rfl, rfl, rfl, by decide +kernel, rfl, by decide +kernel, by decide +kernel⟩
theorem ok_apart {f : Addr} {fd : FuncData} (F : Fun K "is_apart" "is_apart" s_is_apart f fd) (T : RO P w K mg base C) (B : NM mg) : FnOk P w K mg base CX0 10 f fd ["rows"] (spTri C) := by
  refine F.ok sc_is_apart (fun vs H Q E h => ?_) (fun cdv A outer s H vs Q E hr h => ?_)
  · obtain ⟨v, n, r, rfl, _⟩ := h
    rfl
  · obtain ⟨v, n, r, rfl, hM, n8, met, q⟩ := h
    refine ⟨_, (pss_cons (ps_for PassesOwn.never rfl (pi_range1 rfl B.range (pa_cons (pe_callB call_len_seq (by rfl) B.len (by decide +kernel) (pa_cons (pv 0) pa_nil)) pa_nil)) (pg_name (i := 1) sc_is_apart.nd rfl (Or.inl rfl))
  (pss_one (ps_for PassesOwn.never rfl (pi_range1 rfl B.range (pa_cons (pv 1) pa_nil)) (pg_name (i := 2) sc_is_apart.nd rfl (Or.inl rfl))
  (pss_one (ps_if (pt_cmpR op_le (T.pe_sign hr (pe_ix ix_tup (pe_ix ix_tup (pv 0) (pv 1) (fun _ _ => rfl)) (pv 2) (fun _ _ => rfl))) pe_int (nomark _)) (pss_one (ps_ret pe_bl)) pss_nil)))))
  (pss_one (ps_ret pe_bl))), ?_⟩
    obtain ⟨p, vs, rfl, hp, hl, row⟩ := hM.at
    refine ⟨_, rfl, p, _, rfl, .inr (SqT.of hp), ?_⟩
    rw [hl]
    refine ⟨(n : Int), rfl, by omega, by omega, for_range (lo := 0) (n := (n : Int).toNat) (fun x σ H' => ∃ (a b : Option V), σ = [some (.ref p), a, b] ∧ Same H H') ⟨none, none, rfl, Same.refl H⟩ ?_ ?_⟩
    · rintro x σ H1 hx ⟨a, b, rfl, s1⟩
      have hxn : x < n := by omega
      rw [Int.zero_add]
      obtain ⟨px, ux, ex, hpx, lx, itx⟩ := row x hxn
      refine ⟨_, rfl, (x : Int), rfl, by omega, by omega, for_range (lo := 0) (n := (x : Int).toNat) (fun y σ H' => ∃ (b : Option V), σ = [some (.ref p), some (.int (x : Int)), b] ∧ Same H H') ⟨b, rfl, s1⟩ ?_ ?_⟩
      · rintro y σ H3 hy ⟨b, rfl, s3⟩
        have hyn : y < n := by omega
        rw [Int.zero_add]
        obtain ⟨vxy, exy, rxy⟩ := itx y hyn
        refine ⟨_, rfl, _, rfl, p, _, _, _, rfl, rfl, SqT.of (s3 _ _ hp), atI_nat ex, _, rfl, px, _, _, _, rfl, rfl, SqT.of (s3 _ _ hpx), atI_nat exy, ?_⟩
        refine ⟨_, rxy.same s3, fun H4 s4 => ⟨_, _, rfl, rfl, _, rfl, decF ?_ ⟨_, rfl, s3.trans s4⟩⟩⟩
        have t := met.pos x y hxn hyn (by omega)
        have := (@sgn_pos (r x y)).mpr t
        omega
      · rintro σ H3 ⟨b, rfl, s3⟩
        exact ⟨_, _, rfl, s3⟩
    · rintro σ H1 ⟨a, b, rfl, s1⟩
      exact q H1 s1
end
end KW
end

section
set_option Elab.async false
set_option linter.all false
set_option maxRecDepth 100000
set_option maxHeartbeats 4000000
set_option exponentiation.threshold 100000
namespace KW
open PySem PySem.Spec PyProof.Rows L2 K38
section
variable {P : Program} {w : World} {K : PySem.W.Frag} {mg : Str → Option Value} {base : Heap} {C : Addr}
abbrev s_taken_rows : Stmt := top 25
abbrev N_taken_rows : List Str := ["rows", "row", "item"]
theorem sc_taken_rows : FnScope N_taken_rows ["rows"] (defScope s_taken_rows) := ⟨rfl, rfl, rfl, by decide +kernel, rfl, by decide +kernel, by decide +kernel⟩
theorem ok_taken {f fR fA : Addr} {fd fdR fdA : FuncData} (F : Fun K "taken_rows" "taken_rows" s_taken_rows f fd) (T : RO P w K mg base C) (B : NM mg) (G_is_rational : FnAt P w K mg base CX0 4 "is_rational" fR fdR ["value"] [] (spIsRat C))
    (G_as_ratio : FnAt P w K mg base CX0 4 "as_ratio" fA fdA ["value"] [] (spAsR C)) : FnOk P w K mg base CX0 6 f fd ["rows"] (spTaken C) := by
  refine F.ok sc_taken_rows (fun vs H Q E h => ?_) (fun cdv A outer s H vs Q E hr h => ?_)
  · obtain ⟨v, n, r, rfl, _⟩ := h
    rfl
  · obtain ⟨v, n, r, rfl, hM, n1, n8, q⟩ := h
    refine ⟨_, (pss_cons (ps_if (PW.pt (pw_or (pt_not (pt_val (pe_callB call_isiT (by rfl) B.isinstance (by decide +kernel) (pa_cons (pv 0) (pa_cons (pe_tup (pa_cons (pe_bltn (v := .ty "list") (u := .type "list") (by rfl) B.list (by decide +kernel) rfl) (pa_cons (pe_bltn (v := .ty "tuple") (u := .type "tuple") (by rfl) B.tuple (by decide +kernel) rfl) pa_nil))) pa_nil))))) (pw_or1 (pt_cmpR op_eq (pe_callB call_len_seq (by rfl) B.len (by decide +kernel) (pa_cons (pv 0) pa_nil)) pe_int (nomark _))))) (pss_one ps_never) pss_nil)
  (pss_cons (ps_for PassesOwn.never rfl (pi_tup (pv 0)) (pg_name (i := 1) sc_taken_rows.nd rfl (Or.inl rfl))
  (pss_cons (ps_if (PW.pt (pw_or (pt_not (pt_val (pe_callB call_isiT (by rfl) B.isinstance (by decide +kernel) (pa_cons (pv 1) (pa_cons (pe_tup (pa_cons (pe_bltn (v := .ty "list") (u := .type "list") (by rfl) B.list (by decide +kernel) rfl) (pa_cons (pe_bltn (v := .ty "tuple") (u := .type "tuple") (by rfl) B.tuple (by decide +kernel) rfl) pa_nil))) pa_nil))))) (pw_or1 (pt_cmpR op_ne (pe_callB call_len_seq (by rfl) B.len (by decide +kernel) (pa_cons (pv 1) pa_nil)) (pe_callB call_len_seq (by rfl) B.len (by decide +kernel) (pa_cons (pv 0) pa_nil)) (nomark _))))) (pss_one ps_never) pss_nil)
  (pss_one (ps_for PassesOwn.never rfl (pi_tup (pv 1)) (pg_name (i := 2) sc_taken_rows.nd rfl (Or.inl rfl))
  (pss_one (ps_if (pt_not (pt_val (pe_call G_is_rational.ok (hr.mono (by decide)) rfl G_is_rational.mgf G_is_rational.kp G_is_rational.b .nil pass0 (pa_cons (pv 2) pa_nil)))) (pss_one ps_never) pss_nil))))))
  (pss_one (ps_ret (pe_callTy call_tuple_of (by rfl) B.tuple (by decide +kernel) (pa_cons (lcG (pe_lc (own := [("row", 1)]) (g := gName 1) rfl sc_taken_rows.nd (pi_tup (pv 0)) (blkOk_by (own := [("row", 1)]) (N := N_taken_rows) (sc := defScope s_taken_rows) (by decide +kernel)) (fun _ _ _ _ _ => (pg_name (i := 1) sc_taken_rows.nd rfl (Or.inl rfl))) (fun _ _ _ _ _ => pts_nil) (fun _ _ _ _ _ => (pe_callTy (call_tupleK K rfl) (by rfl) B.tuple (by decide +kernel) (pa_cons (lcG (pe_lc (own := [("item", 2)]) (g := gName 2) rfl sc_taken_rows.nd (pi_tupK K rfl (pv 1)) (blk_in (own := [("item", 2)]) (N := N_taken_rows) (sc0 := defScope s_taken_rows) rfl (by decide +kernel)) (fun _ _ _ _ _ => (pg_name (i := 2) sc_taken_rows.nd rfl (Or.inl rfl))) (fun _ _ _ _ _ => pts_nil) (fun _ _ _ _ _ => (pe_call G_as_ratio.ok (hr.mono (by decide)) rfl G_as_ratio.mgf G_as_ratio.kp G_as_ratio.b .nil pass0 (pa_cons (pv 2) pa_nil))))) pa_nil))))) pa_nil)))))), ?_⟩
    obtain ⟨p, vs, rfl, hp, hl, row⟩ := hM.at
    refine ⟨_, rfl, (by show 2 ≤ sizeLine; decide), fun t ht => ?_⟩
    have st := Same.upd ht (o := .tup [.ty "list", .ty "tuple"])
    have hp1 := st _ _ hp
    refine ⟨_, t, _, _, _, true, rfl, upd_same, .cons (.ty "list") (.cons (.ty "tuple") .nil), .base (.tup hp1), kit_lt, _, rfl, iteF ?_⟩
    refine ⟨_, rfl, p, _, rfl, .inr (SqT.of hp1), rfl, _, rfl, decF (by rw [hl]; intro e; injection e with e; omega) ?_⟩
    refine ⟨_, rfl, p, rfl, ⟨_, SqT.of hp1⟩, for_tup (K := K) (a := p) (xs := vs) (fun i σ H' => ∃ (a b : Option V), σ = [some (.ref p), a, b] ∧ Same H H') ⟨none, none, rfl, st⟩ (fun i σ H' _ ⟨_, _, _, s2⟩ => SqT.of (s2 _ _ hp)) ?_ ?_⟩
    · rintro i y σ H1 hi ⟨a, b, rfl, s1⟩
      have hin : i < n := by rw [← hl]; exact (List.getElem?_eq_some_iff.mp hi).1
      obtain ⟨px, ux, ex, hpx, lx, itx⟩ := row i hin
      rw [ex] at hi
      cases hi
      refine ⟨_, rfl, (by show 2 ≤ sizeLine; decide), fun t2 ht2 => ?_⟩
      have s2 := s1.trans (Same.upd ht2 (o := .tup [.ty "list", .ty "tuple"]))
      have hx2 := s2 _ _ hpx
      refine ⟨_, t2, _, _, _, true, rfl, upd_same, .cons (.ty "list") (.cons (.ty "tuple") .nil), .base (.tup hx2), kit_lt, _, rfl, iteF ?_⟩
      refine ⟨_, rfl, px, _, rfl, .inr (SqT.of hx2), _, rfl, p, _, rfl, .inr (SqT.of (s2 _ _ hp)), rfl, _, rfl, iteNS (by rw [lx, hl]) ?_⟩
      refine ⟨_, rfl, px, rfl, ⟨_, SqT.of hx2⟩, for_tup (K := K) (a := px) (xs := ux) (fun j σ H' => ∃ (b : Option V), σ = [some (.ref p), some (.ref px), b] ∧ Same H H') ⟨b, rfl, s2⟩ (fun i σ H' _ ⟨_, _, s2⟩ => SqT.of (s2 _ _ hpx)) ?_ ?_⟩
      · rintro j y σ H3 hj ⟨b, rfl, s3⟩
        have hjn : j < n := by rw [← lx]; exact (List.getElem?_eq_some_iff.mp hj).1
        obtain ⟨v, ev, rv⟩ := itx j hjn
        rw [ev] at hj
        cases hj
        exact ⟨_, rfl, y, _, rfl, rv.same s3, _, rfl, iteF ⟨_, rfl, s3⟩⟩
      · rintro σ H3 ⟨b, rfl, s3⟩
        exact ⟨_, _, rfl, s3⟩
    · rintro σ H1 ⟨a, b, rfl, s1⟩
      have src := src_tup (K := K) (H1 := H1) (a := p) (SqT.of (s1 _ _ hp))
      rw [hl] at src
      refine ⟨_, rfl, p, rfl, ⟨_, SqT.of (s1 _ _ hp)⟩, ?_⟩
      refine lcN src (by omega) (R := fun i v H => TupA (RQ C (r i)) n v H) rowT_rnl (by exact fun _ => rfl) ?_ ?_
      · intro i Hi hi si Qk hq
        obtain ⟨px, ux, ex, hpx, lx, itx⟩ := row i hi
        have hpi := si _ _ (s1 _ _ hpx)
        have eg : vs.getD i .non = .ref px := by simp only [List.getD, ex]; rfl
        have src2 := src_tup (K := K) (H1 := Hi) (a := px) (SqT.of hpi)
        rw [lx] at src2
        refine ⟨_, rfl, px, eg, ⟨_, SqT.of hpi⟩, ?_⟩
        refine lcN src2 (by omega) (R := RQ C (r i)) RQ.rnl (by exact fun _ => rfl) ?_ ?_
        · intro j Hj hj sj Qk2 hq2
          obtain ⟨v, ev, rv⟩ := itx j hj
          have eg2 : ux.getD j .non = v := by simp only [List.getD, ev]; rfl
          have rj := ((rv.same s1).same si).same sj
          refine ⟨_, rfl, v, _, (by rw [eg2]; rfl), rj, ?_⟩
          exact hq2 v Hj (Same.refl _) rj
        · intro D1 H2 zs s4 hD0 hD1 ar2
          refine ⟨D1, zs, rfl, .inl ⟨SqL.of hD1, fun l hl => ?_⟩⟩
          exact hq _ _ (s4.trans (Same.upd hl)) ⟨l, zs, rfl, upd_same, ar2.nl RQ.rnl (NL.of (Same.upd hl))⟩
      · intro D1 H2 zs s4 hD0 hD1 ar2
        refine ⟨D1, zs, rfl, .inl ⟨SqL.of hD1, fun l hl => ?_⟩⟩
        exact q _ _ ((s1.trans s4).trans (Same.upd hl)) ⟨l, zs, rfl, upd_same, ar2.nl rowT_rnl (NL.of (Same.upd hl))⟩
abbrev s_Metric_init : Stmt := inClass (top 28) 0
abbrev N_Metric_init : List Str := ["self", "rows", "own"]
theorem sc_Metric_init : FnScope N_Metric_init ["self", "rows"] (defScope s_Metric_init) := ⟨rfl, rfl, rfl, by decide +kernel, rfl, by decide +kernel, by decide +kernel⟩
theorem nr_ : ¬ (("n" : Str) = "rows") := by decide +kernel
theorem putF_nr (a : Int) (v : V) : putF "rows" v (putF "n" (.int a) []) = ([("n", V.int a), ("rows", v)] : List (Str × V)) := by
  show (if ("n" : Str) = "rows" then [(("n" : Str), v)] else (("n" : Str), V.int a) :: putF "rows" v []) = ([("n", V.int a), ("rows", v)] : List (Str × V))
  rw [if_neg nr_]
  rfl
theorem ok_minit {M f fR fA fT : Addr} {fd fdR fdA fdT : FuncData} (F : Fun K "__init__" "Metric.__init__" s_Metric_init f fd) (B : NM mg) (cl : Cls K M) (nN : NoAttr K M "n") (nR : NoAttr K M "rows") (T_MOST : ∃ t, mg "MOST" = some (.int 8 t))
    (G_taken_rows : FnAt P w K mg base CX0 6 "taken_rows" fR fdR ["rows"] [] (spTaken C)) (G_keeps_triangles : FnAt P w K mg base CX0 10 "keeps_triangles" fT fdT ["rows"] [] (spTri C)) (G_is_apart : FnAt P w K mg base CX0 10 "is_apart" fA fdA ["rows"] [] (spTri C)) :
    FnOk P w K mg base CX0 12 f fd ["self", "rows"] (spMInit M C) := by
  obtain ⟨tm, T_MOST⟩ := T_MOST
  refine F.ok sc_Metric_init (fun vs H Q E h => ?_) (fun cdv A outer s H vs Q E hr h => ?_)
  · obtain ⟨p, dx, v, n, r, rfl, _⟩ := h
    rfl
  · obtain ⟨p, dx, v, n, r, rfl, hp, hM, n1, n8, met, q⟩ := h
    refine ⟨_, (pss_cons (ps_set (i := 2) sc_Metric_init.nd rfl (Or.inl rfl) (pe_call G_taken_rows.ok (hr.mono (by decide)) rfl G_taken_rows.mgf G_taken_rows.kp G_taken_rows.b .nil pass0 (pa_cons (pv 1) pa_nil)))
  (pss_cons (ps_if (pt_cmpR op_gt (pe_callB call_len_seq (by rfl) B.len (by decide +kernel) (pa_cons (pv 2) pa_nil)) (pe_glob (v := .int 8) rfl T_MOST ⟨_, rfl⟩) (nomark _)) (pss_one ps_never) pss_nil)
  (pss_cons (ps_if (PW.pt (pw_or (pt_not (pt_val (pe_call G_keeps_triangles.ok (hr.mono (by decide)) rfl G_keeps_triangles.mgf G_keeps_triangles.kp G_keeps_triangles.b .nil pass0 (pa_cons (pv 2) pa_nil)))) (pw_or1 (pt_not (pt_val (pe_call G_is_apart.ok (hr.mono (by decide)) rfl G_is_apart.mgf G_is_apart.kp G_is_apart.b .nil pass0 (pa_cons (pv 2) pa_nil))))))) (pss_one ps_never) pss_nil)
  (pss_cons (ps_fld (pv 0) (pe_callB call_len_seq (by rfl) B.len (by decide +kernel) (pa_cons (pv 2) pa_nil)) rfl)
  (pss_one (ps_fld (pv 0) (pv 2) rfl)))))), ?_⟩
    refine ⟨_, rfl, v, n, r, rfl, hM, n1, n8, fun v2 H2 s2 hM2 => ?_⟩
    obtain ⟨p2, vs2, rfl, hp2, hl2, _⟩ := hM2.at
    refine ⟨_, rfl, p2, _, rfl, .inr (SqT.of hp2), ?_⟩
    rw [hl2]
    refine ⟨_, _, rfl, rfl, _, rfl, decF (by omega) ?_⟩
    refine ⟨_, rfl, _, n, r, rfl, hM2, n8, met, fun H3 s3 => ⟨_, rfl, iteF ?_⟩⟩
    refine ⟨_, rfl, _, n, r, rfl, hM2.same s3, n8, met, fun H4 s4 => ⟨_, rfl, iteF ?_⟩⟩
    have s34 := s3.trans s4
    have hp4 := s34 _ _ hp2
    refine ⟨_, rfl, p2, _, rfl, .inr (SqT.of hp4), _, rfl, p, M, dx, _, rfl, s34 _ _ (s2 _ _ hp), cl, nN, (by decide), ?_⟩
    refine ⟨_, rfl, _, rfl, p, M, dx, _, rfl, upd_same, cl, nR, (by show 1 < 1000; decide), ?_⟩
    rw [upd_upd, putF_nr, hl2]
    refine q _ (fun b o hb e => ?_) ⟨p, dx, _, rfl, upd_same, ?_⟩
    · rw [upd_ne hb]
      exact s34 _ _ (s2 _ _ e)
    · have hM4 := hM2.same s34
      obtain ⟨p5, vs5, e5, h5, a5⟩ := hM4
      have sx : ∀ b o, b ≠ p → H4 b = some o → upd H4 p (.ins M dx ([("n", V.int (n : Int)), ("rows", V.ref p2)] : List (Str × V))) b = some o := fun b o hb e => by rw [upd_ne hb]; exact e
      have fs : ∀ b o, H4 b = some o → (∀ dx, o ≠ .ins M dx []) → upd H4 p (.ins M dx ([("n", V.int (n : Int)), ("rows", V.ref p2)] : List (Str × V))) b = some o := fun b o e ne => sx b o (fun z => by
        subst z
        have z2 := s34 _ _ (s2 _ _ hp)
        rw [e] at z2
        exact ne dx (Option.some.inj z2)) e
      refine ⟨p5, vs5, e5, fs _ _ h5 (fun dx z => by cases z), a5.1, fun i v e => ?_⟩
      obtain ⟨p6, vs6, e6, h6, a6⟩ := a5.2 i v e
      refine ⟨p6, vs6, e6, fs _ _ h6 (fun dx z => by cases z), a6.1, fun j u eu => ?_⟩
      obtain ⟨p7, dx7, e7, h7⟩ := a6.2 j u eu
      exact ⟨p7, dx7, e7, fs _ _ h7 (fun dx z => by cases z)⟩
end
end KW
end

section
set_option Elab.async false
set_option linter.all false
set_option maxRecDepth 100000
set_option maxHeartbeats 4000000
set_option exponentiation.threshold 100000
namespace KW
open PySem PySem.Spec PyProof.Rows L2 K38
section
variable {P : Program} {w : World} {K : PySem.W.Frag} {mg : Str → Option Value} {base : Heap} {C : Addr}
abbrev s_products_of : Stmt := top 14
abbrev N_products_of : List Str := ["rows", "n", "found", "i", "j"]
theorem sc_products_of : FnScope N_products_of ["rows"] (defScope s_products_of) := ⟨rfl, rfl, rfl, by decide +kernel, rfl, by decide +kernel, by decide +kernel⟩
theorem ok_prod {f : Addr} {fd : FuncData} (F : Fun K "products_of" "products_of" s_products_of f fd) (T : RO P w K mg base C) (B : NM mg) : FnOk P w K mg base CX0 7 f fd ["rows"] (spProd C) := by
  refine F.ok sc_products_of (fun vs H Q E h => ?_) (fun cdv A outer s H vs Q E hr h => ?_)
  · obtain ⟨v, n, r, rfl, _⟩ := h
    rfl
  · obtain ⟨v, n, r, rfl, hL, n7, sz, q⟩ := h
    refine ⟨_, (pss_cons (ps_set (i := 1) sc_products_of.nd rfl (Or.inl rfl) (pe_callB call_len_seq (by rfl) B.len (by decide +kernel) (pa_cons (pv 0) pa_nil)))
  (pss_cons (ps_set (i := 2) sc_products_of.nd rfl (Or.inl rfl) (pe_lst pa_nil))
  (pss_cons (ps_for PassesOwn.never rfl (pi_range2 rfl B.range (pa_cons pe_int (pa_cons (pv 1) pa_nil))) (pg_name (i := 3) sc_products_of.nd rfl (Or.inr rfl))
  (pss_one (ps_expr (pe_bm PySem.F.plainAttrs_list PySem.F.slot_list_append PySem.F.type_list_append mt_append (pv 2) (pa_cons (pe_callTy call_tuple_of (by rfl) B.tuple (by decide +kernel) (pa_cons (lcG (pe_lc (own := [("j", 4)]) (g := gName 4) rfl sc_products_of.nd (pi_range2 rfl B.range (pa_cons pe_int (pa_cons (pv 1) pa_nil))) (blkOk_by (own := [("j", 4)]) (N := N_products_of) (sc := defScope s_products_of) (by decide +kernel)) (fun _ _ _ _ _ => (pg_name (i := 4) sc_products_of.nd rfl (Or.inl rfl))) (fun _ _ _ _ _ => pts_nil) (fun _ _ _ _ _ => (T.pe_half hr (pe_op (T.opSub hr) (pe_op (T.opAdd hr) (pe_ix (ix_listK K rfl) (pe_ix (ix_listK K rfl) (pv 0) pe_int (fun _ _ => rfl)) (pv 3) (fun _ _ => rfl)) (pe_ix (ix_listK K rfl) (pe_ix (ix_listK K rfl) (pv 0) pe_int (fun _ _ => rfl)) (pv 4) (fun _ _ => rfl))) (pe_ix (ix_listK K rfl) (pe_ix (ix_listK K rfl) (pv 0) (pv 3) (fun _ _ => rfl)) (pv 4) (fun _ _ => rfl))))))) pa_nil)) pa_nil)))))
  (pss_one (ps_ret (pe_callTy call_tuple_of (by rfl) B.tuple (by decide +kernel) (pa_cons (pv 2) pa_nil))))))), ?_⟩
    obtain ⟨p, vs, rfl, hp, hl, row⟩ := hL.at
    have en : (vs.length : Int) = ((n + 1 : Nat) : Int) := by rw [hl]
    refine ⟨_, rfl, p, _, rfl, .inl (SqL.of hp), ?_⟩
    rw [hl]
    refine ⟨Nat.zero_le _, fun g g0 => ?_⟩
    have e1 : (((n + 1 : Nat) : Int) - 1).toNat = n := by omega
    refine ⟨_, rfl, _, _, rfl, ⟨by decide, by decide, by omega, by omega⟩, ?_⟩
    rw [e1]
    refine for_range (lo := 1) (n := n) (fun i σ H' => ∃ (a b : Option V) (us : List V), σ = [some (.ref p), some (.int ((n + 1 : Nat) : Int)), some (.ref g), a, b] ∧ Same H H' ∧ H' g = some (.lst us) ∧ Arr (fun i v H => TupA (RQ C (prodQ r i)) n v H) i us H')
      ⟨none, none, [], rfl, Same.upd g0, upd_same, Arr.nil⟩ ?_ ?_
    · rintro i σ H1 hi ⟨a, b, us, rfl, s1, hg, ar⟩
      refine ⟨_, rfl, .inl ⟨rfl, _, SqL.of hg⟩, _, rfl, _, _, rfl, ⟨by decide, by decide, by omega, by omega⟩, ?_⟩
      rw [e1]
      refine lcN src_range (by omega) (R := RQ C (prodQ r i)) RQ.rnl (by exact fun _ => rfl) ?_ ?_
      · intro j H2 hj s2 Qk hq
        have s12 := s1.trans s2
        obtain ⟨p0, u0, x0, h0, l0, it0⟩ := row 0 (by omega)
        obtain ⟨pi, ui, xi, hpi, li, iti⟩ := row (i + 1) (by omega)
        obtain ⟨v0i, x0i, r0i⟩ := it0 (i + 1) (by omega)
        obtain ⟨v0j, x0j, r0j⟩ := it0 (j + 1) (by omega)
        obtain ⟨vij, xij, rij⟩ := iti (j + 1) (by omega)
        have ei : (1 : Int) + (i : Int) = ((i + 1 : Nat) : Int) := by omega
        have ej : (1 : Int) + (j : Int) = ((j + 1 : Nat) : Int) := by omega
        have z1 := sz 0 (i + 1) (by omega) (by omega)
        have z2 := sz 0 (j + 1) (by omega) (by omega)
        have z3 := sz (i + 1) (j + 1) (by omega) (by omega)
        rw [ei, ej]
        refine ⟨_, rfl, p, _, _, _, rfl, rfl, SqL.of (s12 _ _ hp), (by exact atI_nat (j := 0) x0), _, rfl, p0, _, _, _, rfl, rfl, SqL.of (s12 _ _ h0), atI_nat x0i, ?_⟩
        refine ⟨_, rfl, p, _, _, _, rfl, rfl, SqL.of (s12 _ _ hp), (by exact atI_nat (j := 0) x0), _, rfl, p0, _, _, _, rfl, rfl, SqL.of (s12 _ _ h0), atI_nat x0j, ?_⟩
        refine ⟨_, _, r0i.same s12, r0j.same s12, bigR_of z1 z2 (by decide) (by decide) (by decide), fun v3 H3 s3 r3 => ?_⟩
        have s13 := s12.trans s3
        have z4 := sz_add (e := 50) z1 z2 (by decide) (by decide)
        refine ⟨_, rfl, _, rfl, p, _, _, _, rfl, rfl, SqL.of (s13 _ _ hp), atI_nat xi, _, rfl, pi, _, _, _, rfl, rfl, SqL.of (s13 _ _ hpi), atI_nat xij, ?_⟩
        refine ⟨_, _, r3, rij.same s13, bigR_of z4 z3 (by decide) (by decide) (by decide), fun v4 H4 s4 r4 => ?_⟩
        have z5 := sz_sub (e := 60) z4 z3 (by decide) (by decide)
        refine ⟨_, r4, ?_, fun v5 H5 s5 r5 => ?_⟩
        · have := z5.2
          exact Nat.lt_trans (Nat.mul_lt_mul_of_pos_left this (by decide)) (by decide +kernel)
        · exact hq _ _ ((s3.trans s4).trans s5) r5
      · intro D1 H2 ys s2 hD0 hD1 ar2
        refine ⟨D1, ys, rfl, .inl ⟨SqL.of hD1, fun t ht => ?_⟩⟩
        have s3 := s2.trans (Same.upd (o := .tup ys) ht)
        have hg3 := s3 _ _ hg
        refine ⟨g, us, _, rfl, rfl, hg3, ?_, some (.int (1 + (i : Int))), b, us ++ [.ref t], rfl, Same.upd' (s1.trans s3) g0, upd_same, ?_⟩
        · rw [ar.1]
          exact Nat.lt_of_le_of_lt (show i ≤ 8 by omega) (by decide)
        · have nl := NL.upd (H := upd H2 t (.tup ys)) (D := g) (xs := us) (o := .lst (us ++ [.ref t])) hg3
          exact (ar.nl (R := fun i v H => TupA (RQ C (prodQ r i)) n v H) rowT_rnl ((NL.of s3).trans nl)).snoc ⟨t, ys, rfl, nl _ _ upd_same (fun xs z => by cases z), ar2.nl RQ.rnl ((NL.of (Same.upd ht)).trans nl)⟩
    · rintro σ H1 ⟨a, b, us, rfl, s1, hg, ar⟩
      refine ⟨_, rfl, g, us, rfl, .inl ⟨SqL.of hg, fun t ht => ?_⟩⟩
      exact q _ _ (s1.trans (Same.upd ht)) ⟨t, us, rfl, upd_same, ar.nl (R := fun i v H => TupA (RQ C (prodQ r i)) n v H) rowT_rnl (NL.of (Same.upd ht))⟩
end
end KW
end

section
set_option Elab.async false
set_option linter.all false
set_option maxRecDepth 100000
set_option maxHeartbeats 4000000
set_option exponentiation.threshold 100000
namespace KW
open PySem PySem.Spec PyProof.Rows L2 K38
section
variable {P : Program} {w : World} {K : PySem.W.Frag} {mg : Str → Option Value} {base : Heap} {C : Addr}
abbrev s_gram : Stmt := top 15
abbrev N_gram : List Str := ["m", "row", "item"]
theorem sc_gram : FnScope N_gram ["m"] (defScope s_gram) := ⟨rfl, rfl, rfl, by decide +kernel, rfl, by decide +kernel, by decide +kernel⟩
theorem lq_of {G : Mx} {n m : Nat} {D : Addr} {ps : List Addr} {H : Hp} (hD : H D = some (.lst (ps.map V.ref))) (hl : ps.length = n) (nl : NewL (fun i => RQ C (G i)) (fun _ => m) ps H) : LQ C G n m (.ref D) H := by
  refine ⟨D, ps.map V.ref, rfl, hD, by rw [List.length_map]; exact hl, fun i v e => ?_⟩
  rw [List.getElem?_map] at e
  obtain ⟨a, ea, rfl⟩ := Option.map_eq_some_iff.mp e
  obtain ⟨us, h1, h2⟩ := nl.2 i a ea
  exact ⟨a, us, rfl, h1, h2⟩
theorem ok_gram {M f fp : Addr} {fd fdp : FuncData} (F : Fun K "gram" "gram" s_gram f fd) (T : RO P w K mg base C) (cl : Cls K M) (nR : NoAttr K M "rows") (G_products_of : FnAt P w K mg base CX0 7 "products_of" fp fdp ["rows"] [] (spProd C)) :
    FnOk P w K mg base CX0 9 f fd ["m"] (spGram M C) := by
  refine F.ok sc_gram (fun vs H Q E h => ?_) (fun cdv A outer s H vs Q E hr h => ?_)
  · obtain ⟨v, n, r, rfl, _⟩ := h
    rfl
  · obtain ⟨v, n, r, rfl, hM, n7, sz, q⟩ := h
    refine ⟨_, (pss_one (ps_ret (pe_call G_products_of.ok (hr.mono (by decide)) rfl G_products_of.mgf G_products_of.kp G_products_of.b .nil pass0 (pa_cons (lcG (pe_lc (own := [("row", 1)]) (g := gName 1) rfl sc_gram.nd (pi_tup (pe_fld (pv 0) rfl)) (blkOk_by (own := [("row", 1)]) (N := N_gram) (sc := defScope s_gram) (by decide +kernel)) (fun _ _ _ _ _ => (pg_name (i := 1) sc_gram.nd rfl (Or.inl rfl))) (fun _ _ _ _ _ => pts_nil) (fun _ _ _ _ _ => (lcG (pe_lc (own := [("item", 2)]) (g := gName 2) rfl sc_gram.nd (pi_tupK K rfl (pv 1)) (blk_in (own := [("item", 2)]) (N := N_gram) (sc0 := defScope s_gram) rfl (by decide +kernel)) (fun _ _ _ _ _ => (pg_name (i := 2) sc_gram.nd rfl (Or.inl rfl))) (fun _ _ _ _ _ => pts_nil) (fun _ _ _ _ _ => (pe_op (T.opMul hr) (pv 2) (pv 2)))))))) pa_nil)))), ?_⟩
    obtain ⟨pm, dx, vr, rfl, hpm, hR⟩ := hM
    obtain ⟨p, vs, rfl, hp, hl, row⟩ := hR.at
    refine ⟨_, rfl, pm, M, dx, _, _, rfl, hpm, cl, nR, (by exact rfl), p, rfl, ⟨_, SqT.of hp⟩, ?_⟩
    have src := src_tup (K := K) (H1 := H) (a := p) (SqT.of hp)
    rw [hl] at src
    refine lcL src (by omega) (R := fun i => RQ C (fun j => r i j * r i j)) (m := fun _ => n + 1) (fun i => RQ.rnl) (by exact fun _ => rfl) ?_ ?_
    · intro i H1 hi s1 Qk hq
      obtain ⟨px, ux, ex, hpx, lx, itx⟩ := row i hi
      have hp1 := s1 _ _ hpx
      have eg : vs.getD i .non = .ref px := by simp only [List.getD, ex]; rfl
      have src2 := src_tup (K := K) (H1 := H1) (a := px) (SqT.of hp1)
      rw [lx] at src2
      refine ⟨_, rfl, px, eg, ⟨_, SqT.of hp1⟩, ?_⟩
      refine lcN src2 (by omega) (R := RQ C (fun j => r i j * r i j)) RQ.rnl (by exact fun _ => rfl) ?_ ?_
      · intro j H2 hj s2 Qk2 hq2
        obtain ⟨v, ev, rv⟩ := itx j hj
        have eg2 : ux.getD j .non = v := by simp only [List.getD, ev]; rfl
        have z := sz i j hi hj
        have rj := (rv.same s1).same s2
        refine ⟨_, rfl, _, rfl, _, _, (by rw [eg2]; exact rj), (by rw [eg2]; exact rj), bigR_of z z (by decide) (by decide) (by decide), fun v3 H3 s3 r3 => ?_⟩
        exact hq2 v3 H3 s3 r3
      · intro D1 H2 ys s2 hD0 hD1 ar
        exact hq D1 ys H2 s2 hD0 hD1 ar
    · intro D1 H2 ps s2 hD0 hD1 hl1 _ _ nl
      refine ⟨_, n, fun i j => r i j * r i j, rfl, lq_of hD1 hl1 nl, n7, fun i j hi hj => (sz_mul (sz i j hi hj) (sz i j hi hj)).mono (by decide) (by decide), fun v H' s h => ?_⟩
      exact q v H' (s2.trans s) h
abbrev s_next_place : Stmt := top 16
abbrev N_next_place : List Str := ["work", "found", "i"]
theorem sc_next_place : FnScope N_next_place ["work"] (defScope s_next_place) := ⟨rfl, rfl, rfl, by decide +kernel, rfl, by decide +kernel, by decide +kernel⟩
/-- what next_place has found ahead of i -/
def NxA (W : Mx) (i : Nat) (f : Option Nat) : Prop := (∀ j, j < i → 0 ≤ W j j) ∧ match f with
  | none => ∀ j, j < i → W j j = 0
  | some m => m < i ∧ 0 < W m m ∧ ∀ j, j < m → W j j = 0
theorem ok_next {f : Addr} {fd : FuncData} (F : Fun K "next_place" "next_place" s_next_place f fd) (T : RO P w K mg base C) (B : NM mg) : FnOk P w K mg base CX0 7 f fd ["work"] (spNext C) := by
  refine F.ok sc_next_place (fun vs H Q E h => ?_) (fun cdv A outer s H vs Q E hr h => ?_)
  · obtain ⟨v, n, W, rfl, _⟩ := h
    rfl
  · obtain ⟨v, n, W, rfl, hL, n8, q⟩ := h
    refine ⟨_, (pss_cons (ps_set (i := 1) sc_next_place.nd rfl (Or.inl rfl) pe_non)
  (pss_cons (ps_for PassesOwn.never rfl (pi_range1 rfl B.range (pa_cons (pe_callB call_len_seq (by rfl) B.len (by decide +kernel) (pa_cons (pv 0) pa_nil)) pa_nil)) (pg_name (i := 2) sc_next_place.nd rfl (Or.inl rfl))
  (pss_cons (ps_if (pt_cmpR op_lt (T.pe_sign hr (pe_ix ix_list (pe_ix ix_list (pv 0) (pv 2) (fun _ _ => rfl)) (pv 2) (fun _ _ => rfl))) pe_int (nomark _)) (pss_one (ps_ret pe_non)) pss_nil)
  (pss_one (ps_if (PW.pt (pw_and (pt_cmpR op_isN (pv 1) pe_non (nomark _)) (pw_and1 (pt_cmpR op_gt (T.pe_sign hr (pe_ix ix_list (pe_ix ix_list (pv 0) (pv 2) (fun _ _ => rfl)) (pv 2) (fun _ _ => rfl))) pe_int (nomark _))))) (pss_one (ps_set (i := 1) sc_next_place.nd rfl (Or.inl rfl) (pv 2))) pss_nil))))
  (pss_one (ps_ret (pv 1))))), ?_⟩
    obtain ⟨p, vs, rfl, hp, hl, row⟩ := hL.at
    refine ⟨_, rfl, p, _, rfl, .inl (SqL.of hp), ?_⟩
    rw [hl]
    refine ⟨(n : Int), rfl, by omega, by omega, for_range (lo := 0) (n := (n : Int).toNat) (fun i σ H' => ∃ (f : Option Nat) (a : Option V), σ = [some (.ref p), some (optV f), a] ∧ Same H H' ∧ NxA W i f)
      ⟨none, none, rfl, Same.refl H, fun j h => absurd h (by omega), fun j h => absurd h (by omega)⟩ ?_ ?_⟩
    · rintro i σ H1 hi ⟨f, a, rfl, s1, nn, hf⟩
      have hin : i < n := by omega
      rw [Int.zero_add]
      obtain ⟨px, ux, ex, hpx, lx, itx⟩ := row i hin
      obtain ⟨v, ev, rv⟩ := itx i hin
      refine ⟨_, rfl, _, rfl, p, _, _, _, rfl, rfl, SqL.of (s1 _ _ hp), atI_nat ex, _, rfl, px, _, _, _, rfl, rfl, SqL.of (s1 _ _ hpx), atI_nat ev, ?_⟩
      refine ⟨_, rv.same s1, fun H2 s2 => ⟨_, _, rfl, rfl, _, rfl, bin2 (fun e => ?_) fun e => ?_⟩⟩
      · exact q none H2 (s1.trans s2) (.inl ⟨i, hin, sgn_neg.mp e⟩)
      · have wi : 0 ≤ W i i := by
          have := fun z => e (sgn_neg.mpr z)
          grind
        have nn' : ∀ j, j < i + 1 → 0 ≤ W j j := fun j hj => by
          rcases Nat.lt_or_ge j i with l | l
          · exact nn j l
          · have : j = i := by omega
            rw [this]; exact wi
        have s12 := s1.trans s2
        cases f with
        | none =>
          refine ⟨_, rfl, rfl, _, rfl, decT rfl ?_⟩
          refine ⟨_, rfl, _, rfl, p, _, _, _, rfl, rfl, SqL.of (s12 _ _ hp), atI_nat ex, _, rfl, px, _, _, _, rfl, rfl, SqL.of (s12 _ _ hpx), atI_nat ev, ?_⟩
          refine ⟨_, rv.same s12, fun H3 s3 => ⟨_, _, rfl, rfl, _, rfl, bin2 (fun e2 => ?_) fun e2 => ?_⟩⟩
          · exact ⟨_, rfl, some i, _, rfl, s12.trans s3, nn', Nat.lt_succ_self i, sgn_pos.mp e2, hf⟩
          · refine ⟨none, _, rfl, s12.trans s3, nn', fun j hj => ?_⟩
            rcases Nat.lt_or_ge j i with l | l
            · exact hf j l
            · have : j = i := by omega
              rw [this]
              have := fun z => e2 (sgn_pos.mpr z)
              grind
        | some m =>
          refine ⟨_, rfl, rfl, _, rfl, decF (by intro z; cases z) ?_⟩
          exact ⟨some m, _, rfl, s12, nn', by have := hf.1; omega, hf.2⟩
    · rintro σ H1 ⟨f, a, rfl, s1, nn, hf⟩
      have e1 : (n : Int).toNat = n := by omega
      rw [e1] at nn hf
      refine ⟨_, rfl, q f H1 s1 ?_⟩
      cases f with
      | none => exact .inr hf
      | some m => exact ⟨hf.1, hf.2.1, nn, hf.2.2⟩
end
end KW
end

section
set_option Elab.async false
set_option linter.all false
set_option maxRecDepth 100000
set_option maxHeartbeats 4000000
set_option exponentiation.threshold 100000
namespace KW
open PySem PySem.Spec PyProof.Rows L2 K38
section
variable {P : Program} {w : World} {K : PySem.W.Frag} {mg : Str → Option Value} {base : Heap} {C : Addr}
abbrev s_eliminated : Stmt := top 17
abbrev N_eliminated : List Str := ["rows", "work", "n", "steps", "i", "c", "column", "row", "j", "k"]
theorem sc_eliminated : FnScope N_eliminated ["rows"] (defScope s_eliminated) := ⟨rfl, rfl, rfl, by decide +kernel, rfl, by decide +kernel, by decide +kernel⟩
/-- the steps within the list at g -/
def RSg (C g : Addr) (n : Nat) (st : List Stp) : Rep := fun k v H => ∃ (p : Addr) (s : Stp) (vc : V) (q : Addr) (qs : List V), v = .ref p ∧ st[k]? = some s ∧ H p = some (.tup [.int (s.1 : Int), vc, .ref q]) ∧ IsR C s.2.1 vc H ∧ H q = some (.lst qs) ∧ Arr (RQ C s.2.2) n qs H ∧ q ≠ g
theorem RSg.same {g : Addr} {n : Nat} {st : List Stp} : RS (RSg C g n st) := fun i v H H' s ⟨p, x, vc, q, qs, e, e2, h1, h2, h3, h4, h5⟩ =>
  ⟨p, x, vc, q, qs, e, e2, s _ _ h1, h2.same s, s _ _ h3, h4.same RQ.rnl.rs s, h5⟩
theorem RSg.upd {g : Addr} {n : Nat} {st : List Stp} {us : List V} {o : HO} {H : Hp} (hg : H g = some (.lst us)) {k : Nat} {v : V} (h : RSg C g n st k v H) : RSg C g n st k v (upd H g o) := by
  obtain ⟨p, x, vc, q, qs, e, e2, h1, h2, h3, h4, h5⟩ := h
  have nl := NL.upd (o := o) hg
  exact ⟨p, x, vc, q, qs, e, e2, nl _ _ h1 (fun xs z => by cases z), IsR.nl nl h2, by rw [upd_ne h5]; exact h3, h4.nl RQ.rnl nl, h5⟩
theorem RSg.out {g : Addr} {n : Nat} {st : List Stp} {k : Nat} {v : V} {H : Hp} (h : RSg C g n st k v H) : RSt C n st k v H := by
  obtain ⟨p, x, vc, q, qs, e, e2, h1, h2, h3, h4, h5⟩ := h
  exact ⟨p, x, vc, .ref q, e, e2, h1, h2, q, qs, rfl, h3, h4⟩
theorem RSg.snoc {g : Addr} {n : Nat} {st : List Stp} {x : Stp} {k : Nat} {v : V} {H : Hp} (h : RSg C g n st k v H) : RSg C g n (st ++ [x]) k v H := by
  obtain ⟨p, y, vc, q, qs, e, e2, h⟩ := h
  refine ⟨p, y, vc, q, qs, e, ?_, h⟩
  rw [List.getElem?_append_left (List.getElem?_eq_some_iff.mp e2).1]
  exact e2
/-- a new table of lists stands though another list changes -/
theorem newL_upd {R : Nat → Rep} (hR : ∀ i, RNL (R i)) {m : Nat → Nat} {ps : List Addr} {H : Hp} {g : Addr} {us : List V} {o : HO} (hg : H g = some (.lst us)) (hn : g ∉ ps) (h : NewL R m ps H) : NewL R m ps (upd H g o) := by
  refine ⟨h.1, fun i p e => ?_⟩
  obtain ⟨vs, h1, h2⟩ := h.2 i p e
  have pg : p ≠ g := fun z => hn (by rw [← z]; exact List.mem_of_getElem? e)
  exact ⟨vs, by rw [upd_ne pg]; exact h1, h2.nl (hR i) (NL.upd hg)⟩
theorem newL_same {R : Nat → Rep} (hR : ∀ i, RNL (R i)) {m : Nat → Nat} {ps : List Addr} {H H' : Hp} (s : Same H H') (h : NewL R m ps H) : NewL R m ps H' := by
  refine ⟨h.1, fun i p e => ?_⟩
  obtain ⟨vs, h1, h2⟩ := h.2 i p e
  exact ⟨vs, s _ _ h1, h2.nl (hR i) (NL.of s)⟩
theorem ok_elim {f fn : Addr} {fd fdn : FuncData} (F : Fun K "eliminated" "eliminated" s_eliminated f fd) (T : RO P w K mg base C) (B : NM mg) (G_next_place : FnAt P w K mg base CX0 7 "next_place" fn fdn ["work"] [] (spNext C)) :
    FnOk P w K mg base CX0 9 f fd ["rows"] (spElim C) := by
  refine F.ok sc_eliminated (fun vs H Q E h => ?_) (fun cdv A outer s H vs Q E hr h => ?_)
  · obtain ⟨v, n, G, rfl, _⟩ := h
    rfl
  · obtain ⟨v, n, G, rfl, hM, n4, sy, com, q⟩ := h
    refine ⟨_, (pss_cons (ps_set (i := 1) sc_eliminated.nd rfl (Or.inr rfl) (lcG (pe_lc (own := [("row", 7)]) (g := gName 7) rfl sc_eliminated.nd (pi_tup (pv 0)) (blkOk_by (own := [("row", 7)]) (N := N_eliminated) (sc := defScope s_eliminated) (by decide +kernel)) (fun _ _ _ _ _ => (pg_name (i := 7) sc_eliminated.nd rfl (Or.inl rfl))) (fun _ _ _ _ _ => pts_nil) (fun _ _ _ _ _ => (pe_callTy (call_listK K rfl) (by rfl) B.list (by decide +kernel) (pa_cons (pv 7) pa_nil))))))
  (pss_cons (ps_set (i := 2) sc_eliminated.nd rfl (Or.inr rfl) (pe_callB call_len_seq (by rfl) B.len (by decide +kernel) (pa_cons (pv 1) pa_nil)))
  (pss_cons (ps_set (i := 3) sc_eliminated.nd rfl (Or.inl rfl) (pe_lst pa_nil))
  (pss_cons (ps_set (i := 4) sc_eliminated.nd rfl (Or.inr rfl) (pe_call G_next_place.ok (hr.mono (by decide)) rfl G_next_place.mgf G_next_place.kp G_next_place.b .nil pass0 (pa_cons (pv 1) pa_nil)))
  (pss_cons (ps_while PassesOwn.never (pt_cmpR op_notN (pv 4) pe_non (nomark _)) (pss_cons (ps_set (i := 5) sc_eliminated.nd rfl (Or.inr rfl) (pe_ix ix_list (pe_ix ix_list (pv 1) (pv 4) (fun _ _ => rfl)) (pv 4) (fun _ _ => rfl)))
  (pss_cons (ps_set (i := 6) sc_eliminated.nd rfl (Or.inr rfl) (lcG (pe_lc (own := [("j", 8)]) (g := gName 8) rfl sc_eliminated.nd (pi_range1 rfl B.range (pa_cons (pv 2) pa_nil)) (blkOk_by (own := [("j", 8)]) (N := N_eliminated) (sc := defScope s_eliminated) (by decide +kernel)) (fun _ _ _ _ _ => (pg_name (i := 8) sc_eliminated.nd rfl (Or.inl rfl))) (fun _ _ _ _ _ => pts_nil) (fun _ _ _ _ _ => (T.pe_over hr (pe_ix (ix_listK K rfl) (pe_ix (ix_listK K rfl) (pv 1) (pv 8) (fun _ _ => rfl)) (pv 4) (fun _ _ => rfl)) (pv 5))))))
  (pss_cons (ps_set (i := 1) sc_eliminated.nd rfl (Or.inr rfl) (lcG (pe_lc (own := [("j", 8)]) (g := gName 8) rfl sc_eliminated.nd (pi_range1 rfl B.range (pa_cons (pv 2) pa_nil)) (blkOk_by (own := [("j", 8)]) (N := N_eliminated) (sc := defScope s_eliminated) (by decide +kernel)) (fun _ _ _ _ _ => (pg_name (i := 8) sc_eliminated.nd rfl (Or.inr rfl))) (fun _ _ _ _ _ => pts_nil) (fun _ _ _ _ _ => (lcG (pe_lc (own := [("k", 9)]) (g := gName 9) rfl sc_eliminated.nd (pi_range1 rfl B.range (pa_cons (pv 2) pa_nil)) (blk_in (own := [("k", 9)]) (N := N_eliminated) (sc0 := defScope s_eliminated) rfl (by decide +kernel)) (fun _ _ _ _ _ => (pg_name (i := 9) sc_eliminated.nd rfl (Or.inl rfl))) (fun _ _ _ _ _ => pts_nil) (fun _ _ _ _ _ => (pe_op (T.opSub hr) (pe_ix (ix_listK K rfl) (pe_ix (ix_listK K rfl) (pv 1) (pv 8) (fun _ _ => rfl)) (pv 9) (fun _ _ => rfl)) (pe_op (T.opMul hr) (pe_op (T.opMul hr) (pv 5) (pe_ix (ix_listK K rfl) (pv 6) (pv 8) (fun _ _ => rfl))) (pe_ix (ix_listK K rfl) (pv 6) (pv 9) (fun _ _ => rfl)))))))))))
  (pss_cons (ps_expr (pe_bm PySem.F.plainAttrs_list PySem.F.slot_list_append PySem.F.type_list_append mt_append (pv 3) (pa_cons (pe_tup (pa_cons (pv 4) (pa_cons (pv 5) (pa_cons (pv 6) pa_nil)))) pa_nil)))
  (pss_one (ps_set (i := 4) sc_eliminated.nd rfl (Or.inr rfl) (pe_call G_next_place.ok (hr.mono (by decide)) rfl G_next_place.mgf G_next_place.kp G_next_place.b .nil pass0 (pa_cons (pv 1) pa_nil)))))))))
  (pss_one (ps_ret (pe_tup (pa_cons (pv 1) (pa_cons (pv 3) pa_nil)))))))))), ?_⟩
    obtain ⟨p, vs, rfl, hp, hl, row⟩ := hM.at
    refine ⟨_, rfl, p, rfl, ⟨_, SqT.of hp⟩, ?_⟩
    have src := src_tup (K := K) (H1 := H) (a := p) (SqT.of hp)
    rw [hl] at src
    refine lcL src (by omega) (R := fun i => RQ C (G i)) (m := fun _ => n) (fun i => RQ.rnl) (by exact fun _ => rfl) ?_ ?_
    · intro i H1 hi s1 Qk hq
      obtain ⟨px, ux, ex, hpx, lx, itx⟩ := row i hi
      have hp1 := s1 _ _ hpx
      have eg : vs.getD i .non = .ref px := by simp only [List.getD, ex]; rfl
      refine ⟨_, rfl, px, ux, (by rw [eg]), .inr (SqT.of hp1), fun l hl => ?_⟩
      refine hq l ux _ (Same.upd hl) hl upd_same ⟨lx, fun j u eu => ?_⟩
      have hj : j < n := by rw [← lx]; exact (List.getElem?_eq_some_iff.mp eu).1
      obtain ⟨v, ev, rv⟩ := itx j hj
      rw [ev] at eu
      cases eu
      exact (rv.same s1).same (Same.upd hl)
    · intro D0 H0 ps0 s0 hD0 hD1 hl1 _ _ nl0
      have lq0 : LQ C G n n (.ref D0) H0 := lq_of hD1 hl1 nl0
      refine ⟨_, rfl, D0, _, rfl, .inl (SqL.of hD1), ?_⟩
      have el : ((ps0.map V.ref).length : Int) = (n : Int) := by rw [List.length_map, hl1]
      rw [el]
      refine ⟨Nat.zero_le _, fun g g0 => ?_⟩
      have sg := s0.trans (Same.upd (o := .lst []) g0)
      refine ⟨_, rfl, _, n, G, rfl, lq0.same (Same.upd g0), by omega, fun o H1 s1 np => ?_⟩
      refine ⟨fun m σ H' => ∃ (W : Mx) (st : List Stp) (lo : Nat) (o : Option Nat) (D : Addr) (us : List V) (a b : Option V), m = n - lo ∧ σ = [some (.ref p), some (.ref D), some (.int (n : Int)), some (.ref g), some (optV o), a, b, none, none, none] ∧ Same H H' ∧ H' g = some (.lst us) ∧ Arr (RSg C g n st) st.length us H' ∧ LQ C W n n (.ref D) H' ∧ EI n G W st lo ∧ NP n W o,
        ⟨n, G, [], 0, o, D0, [], none, none, rfl, rfl, sg.trans s1, s1 _ _ upd_same, Arr.nil, (lq0.same (Same.upd g0)).same s1, EI.start sy com, np⟩, ?_⟩
      rintro m σ H2 ⟨W, st, lo, o, D, us, a, b, rfl, rfl, s2, hg, ar, lq, ei, np⟩
      cases o with
      | none =>
        refine ⟨_, rfl, rfl, _, rfl, ?_⟩
        refine iteF ?_
        refine ⟨_, rfl, _, rfl, (by show 2 ≤ sizeLine; decide), fun t ht => ?_⟩
        have s3 := Same.upd (o := .tup [.ref D, .ref g]) ht
        exact q W st lo t (.ref D) (.ref g) _ ei np (s2.trans s3) upd_same (lq.same s3) ⟨g, us, rfl, s3 _ _ hg, (ar.same RSg.same s3).imp fun i v _ h => h.out⟩
      | some i =>
        refine ⟨_, rfl, rfl, _, rfl, ?_⟩
        refine iteT ?_
        have hin : i < n := np.1
        have nx := ei.next n4 np
        have ln := ei.len
        have hk : st.length ≤ 3 := by omega
        have bbk := bb3 hk
        have wz : ∀ a b, a < n → b < n → Sz 263 263 (W a b) := fun a b ha hb => (ei.com.sz ha hb).mono bbk.1 bbk.2
        have cz : ∀ j, j < n → Sz 263 263 (W j i / W i i) := fun j hj => by
          obtain ⟨v, d, u, v0, v1, d0, d1, ec, hu⟩ := nx.2.coms (i, W i i, fun j => W j i / W i i) (List.mem_append_right _ (List.mem_singleton.mpr rfl))
          have := hu j hj
          have e2 : W j i / W i i = (u j : Rat) / (v : Rat) := this.2
          rw [e2]
          exact sz_div v0 v1 this.1
        have iz : Sz 263 263 (W i i) := wz i i hin hin
        refine ⟨fun σ' H' => ∃ (W2 : Mx) (st2 : List Stp) (o : Option Nat) (D : Addr) (us : List V) (a b : Option V), σ' = [some (.ref p), some (.ref D), some (.int (n : Int)), some (.ref g), some (optV o), a, b, none, none, none] ∧ Same H H' ∧ H' g = some (.lst us) ∧ Arr (RSg C g n st2) st2.length us H' ∧ LQ C W2 n n (.ref D) H' ∧ EI n G W2 st2 (i + 1) ∧ NP n W2 o,
          fun σ' H' ⟨W2, st2, o, D, us, a, b, e, r⟩ => ⟨n - (i + 1), by have := nx.1; omega, W2, st2, i + 1, o, D, us, a, b, rfl, e, r⟩, ?_⟩
        obtain ⟨pD, vD, eD, hD, lD, rowD⟩ := lq.at
        cases eD
        obtain ⟨pi, ui, xi, hpi, li, iti⟩ := rowD i hin
        obtain ⟨vii, xii, rii⟩ := iti i hin
        refine ⟨_, rfl, _, rfl, D, _, _, _, rfl, rfl, SqL.of hD, atI_nat xi, _, rfl, pi, _, _, _, rfl, rfl, SqL.of hpi, atI_nat xii, ?_⟩
        have en : (n : Int).toNat = n := by omega
        refine ⟨_, rfl, (n : Int), rfl, by omega, by omega, ?_⟩
        rw [en]
        refine lcN (src_range (lo := 0) (n := n)) (by omega) (R := RQ C fun j => W j i / W i i) RQ.rnl (by exact fun _ => rfl) ?_ ?_
        · intro j H3 hj s3 Qk hq
          obtain ⟨pj, uj, xj, hpj, lj, itj⟩ := rowD j hj
          obtain ⟨vji, xji, rji⟩ := itj i hin
          rw [Int.zero_add]
          refine ⟨_, rfl, _, rfl, D, _, _, _, rfl, rfl, SqL.of (s3 _ _ hD), atI_nat xj, _, rfl, pj, _, _, _, rfl, rfl, SqL.of (s3 _ _ hpj), atI_nat xji, ?_⟩
          refine ⟨⟨_, rji.same s3⟩, _, rfl, _, _, rji.same s3, rii.same s3, bigD_of (wz j i hj hin) iz np.2.1 (by decide) (by decide) (by decide), fun v4 H4 s4 r4 => ?_⟩
          exact hq v4 H4 s4 r4
        · intro cD H3 cs s3 cD0 cD1 arc
          refine ⟨_, rfl, (n : Int), rfl, by omega, by omega, ?_⟩
          rw [en]
          have cc : ∀ j, j < n → ∃ v, cs[j]? = some v ∧ IsR C (W j i / W i i) v H3 := fun j hj => arc.get hj
          refine lcL (src_range (lo := 0) (n := n)) (by omega) (R := fun j => RQ C (step W i j)) (m := fun _ => n) (fun i => RQ.rnl) (by exact fun _ => rfl) ?_ ?_
          · intro j H4 hj s4 Qk hq
            refine ⟨_, rfl, (n : Int), rfl, by omega, by omega, ?_⟩
            rw [en]
            refine lcN (src_range (lo := 0) (n := n)) (by omega) (R := RQ C (step W i j)) RQ.rnl (by exact fun _ => rfl) ?_ ?_
            · intro k H5 hk5 s5 Qk2 hq2
              obtain ⟨pj, uj, xj, hpj, lj, itj⟩ := rowD j hj
              obtain ⟨vjk, xjk, rjk⟩ := itj k hk5
              obtain ⟨cj, xcj, rcj⟩ := cc j hj
              obtain ⟨ck, xck, rck⟩ := cc k hk5
              rw [Int.zero_add, Int.zero_add]
              have s45 := s4.trans s5
              have s35 := s3.trans s45
              refine ⟨_, rfl, _, rfl, D, _, _, _, rfl, rfl, SqL.of (s35 _ _ hD), atI_nat xj, _, rfl, pj, _, _, _, rfl, rfl, SqL.of (s35 _ _ hpj), atI_nat xjk, ?_⟩
              refine ⟨_, rfl, _, rfl, _, rfl, cD, _, _, _, rfl, rfl, SqL.of (s45 _ _ cD1), atI_nat xcj, ?_⟩
              refine ⟨_, _, rii.same s35, rcj.same s45, bigR_of iz (cz j hj) (by decide) (by decide) (by decide), fun v6 H6 s6 r6 => ?_⟩
              have z1 := sz_mul iz (cz j hj)
              refine ⟨_, rfl, _, rfl, cD, _, _, _, rfl, rfl, SqL.of ((s45.trans s6) _ _ cD1), atI_nat xck, ?_⟩
              refine ⟨_, _, r6, (rck.same s45).same s6, bigR_of z1 (cz k hk5) (by decide) (by decide) (by decide), fun v7 H7 s7 r7 => ?_⟩
              have z2 := sz_mul z1 (cz k hk5)
              have s67 := s6.trans s7
              refine ⟨_, _, (rjk.same s35).same s67, r7, bigR_of (wz j k hj hk5) z2 (by decide) (by decide) (by decide), fun v8 H8 s8 r8 => ?_⟩
              exact hq2 v8 H8 (s67.trans s8) r8
            · intro D5 H5 ys s5 hE0 hE1 ar5
              exact hq D5 ys H5 s5 hE0 hE1 ar5
          · intro D4 H4 ps4 s4 hE0 hE1 hl4 hn4 hf4 nl4
            refine ⟨_, rfl, .inl ⟨rfl, _, SqL.of ((s3.trans s4) _ _ hg)⟩, _, rfl, _, rfl, _, rfl, (by show 3 ≤ sizeLine; decide), fun t ht => ?_⟩
            have st5 := Same.upd (o := .tup [.int (i : Int), vii, .ref cD]) ht
            have hg5 := (s3.trans s4).trans st5 _ _ hg
            have u4 : us.length < sizeLine := by rw [ar.1]; exact Nat.lt_of_le_of_lt (show st.length ≤ 8 by omega) (by decide)
            refine ⟨g, us, _, rfl, rfl, hg5, u4, ?_⟩
            have H5g : H2 D4 = none := s3.free hE0
            have gD4 : g ≠ D4 := ne_of_none ((s3 _ _ hg)) hE0
            have gps : g ∉ ps4 := fun z => by
              have := hf4 g z
              rw [s3 _ _ hg] at this; cases this
            have gcD : cD ≠ g := fun z => by rw [z, hg] at cD0; cases cD0
            have nl5 := newL_same (R := fun j => RQ C (step W i j)) (fun i => RQ.rnl) st5 nl4
            have lq5 : LQ C (step W i) n n (.ref D4) (upd (upd H4 t (.tup [.int (i : Int), vii, .ref cD])) g (.lst (us ++ [.ref t]))) :=
              lq_of (by rw [upd_ne gD4.symm]; exact st5 _ _ hE1) hl4 (newL_upd (R := fun j => RQ C (step W i j)) (fun i => RQ.rnl) hg5 gps nl5)
            have nlg := NL.upd (o := .lst (us ++ [.ref t])) hg5
            have s25 := (s3.trans s4).trans st5
            have ar5 : Arr (RSg C g n (st ++ [(i, W i i, fun j => W j i / W i i)])) (st.length + 1) (us ++ [.ref t]) (upd (upd H4 t (.tup [.int (i : Int), vii, .ref cD])) g (.lst (us ++ [.ref t]))) := by
              refine Arr.snoc ⟨ar.1, fun k v e => ?_⟩ ?_
              · exact ((RSg.same _ _ _ _ s25 (ar.2 k v e)).upd hg5).snoc
              · refine ⟨t, _, vii, cD, cs, rfl, List.getElem?_concat_length, nlg _ _ upd_same (fun xs z => by cases z), IsR.nl nlg (rii.same s25), ?_, ?_, gcD⟩
                · rw [upd_ne gcD]
                  exact (s4.trans st5) _ _ cD1
                · exact (arc.same RQ.rnl.rs (s4.trans st5)).nl RQ.rnl nlg
            refine ⟨_, rfl, _, n, step W i, rfl, lq5, by omega, fun o H6 s6 np6 => ?_⟩
            refine ⟨step W i, _, o, D4, us ++ [.ref t], _, _, rfl, ?_, s6 _ _ upd_same, ?_, lq5.same s6, nx.2, np6⟩
            · refine Same.trans ?_ s6
              exact Same.upd' (s2.trans s25) (s0.free g0)
            · rw [List.length_append]
              exact ar5.same RSg.same s6
end
end KW
end

section
set_option Elab.async false
set_option linter.all false
set_option maxRecDepth 100000
set_option maxHeartbeats 4000000
set_option exponentiation.threshold 100000
namespace KW
open PySem PySem.Spec PyProof.Rows L2 K38
section
variable {P : Program} {w : World} {K : PySem.W.Frag} {mg : Str → Option Value} {base : Heap} {C : Addr}
abbrev s_squares_of : Stmt := top 18
abbrev N_squares_of : List Str := ["rows", "work", "steps", "row", "item", "basis", "j", "_", "column", "c"]
theorem sc_squares_of : FnScope N_squares_of ["rows"] (defScope s_squares_of) := ⟨rfl, rfl, rfl, by decide +kernel, rfl, by decide +kernel, by decide +kernel⟩
theorem RSt.nl {n : Nat} {st : List Stp} {k : Nat} {v : V} {H H' : Hp} (s : Same H H') (h : RSt C n st k v H) : RSt C n st k v H' := by
  obtain ⟨p, x, vc, vl, e, e2, h1, h2, h3⟩ := h
  exact ⟨p, x, vc, vl, e, e2, s _ _ h1, h2.same s, h3.same RQ.rnl.rs s⟩
theorem ok_sq {f fe : Addr} {fd fde : FuncData} (F : Fun K "squares_of" "squares_of" s_squares_of f fd) (T : RO P w K mg base C) (B : NM mg) (G_eliminated : FnAt P w K mg base CX0 9 "eliminated" fe fde ["rows"] [] (spElim C)) :
    FnOk P w K mg base CX0 11 f fd ["rows"] (spSquares C) := by
  refine F.ok sc_squares_of (fun vs H Q E h => ?_) (fun cdv A outer s H vs Q E hr h => ?_)
  · obtain ⟨v, n, G, rfl, _⟩ := h
    rfl
  · obtain ⟨v, n, G, rfl, hM, n4, sy, com, qf, qg⟩ := h
    refine ⟨_, (pss_cons (ps_asg (pe_call G_eliminated.ok (hr.mono (by decide)) rfl G_eliminated.mgf G_eliminated.kp G_eliminated.b .nil pass0 (pa_cons (pv 0) pa_nil)) (pg_tup (n := 2) rfl (pgs_cons (pg_name (i := 1) sc_squares_of.nd rfl (Or.inl rfl)) (pgs_cons (pg_name (i := 2) sc_squares_of.nd rfl (Or.inr rfl)) pgs_nil))))
  (pss_cons (ps_for PassesOwn.never rfl (pi_list (pv 1)) (pg_name (i := 3) sc_squares_of.nd rfl (Or.inl rfl))
  (pss_one (ps_for PassesOwn.never rfl (pi_list (pv 3)) (pg_name (i := 4) sc_squares_of.nd rfl (Or.inl rfl))
  (pss_one (ps_if (pt_not (pt_val (T.pe_is_zero hr (pv 4)))) (pss_one (ps_ret pe_non)) pss_nil)))))
  (pss_cons (slcG (ps_setLc (i := 5) (own := [("j", 6)]) (g := gName 6) rfl sc_squares_of.nd rfl rfl (sw_true rfl rfl rfl (by decide +kernel)) (pi_range1 rfl B.range (pa_cons (pe_callB call_len_seq (by rfl) B.len (by decide +kernel) (pa_cons (pv 0) pa_nil)) pa_nil)) (blkOk_by (own := [("j", 6)]) (N := N_squares_of) (sc := defScope s_squares_of) (by decide +kernel)) (fun _ _ _ _ _ => (pg_name (i := 6) sc_squares_of.nd rfl (Or.inr rfl))) (fun _ _ _ _ _ => pts_nil) (fun _ _ _ _ _ => (pe_callTy (call_tupleK K rfl) (by rfl) B.tuple (by decide +kernel) (pa_cons (lcG (pe_lc (own := [("_", 7), ("column", 8)]) rfl sc_squares_of.nd (pi_listK K rfl (pv 2)) (blk_in (own := [("_", 7), ("column", 8)]) (N := N_squares_of) (sc0 := defScope s_squares_of) rfl (by decide +kernel)) (fun _ _ _ _ _ => (tupK K rfl (pg_tup (n := 3) rfl (pgs_cons (pg_name (i := 7) sc_squares_of.nd rfl (Or.inl rfl)) (pgs_cons (pg_name (i := 7) sc_squares_of.nd rfl (Or.inl rfl)) (pgs_cons (pg_name (i := 8) sc_squares_of.nd rfl (Or.inl rfl)) pgs_nil)))))) (fun _ _ _ _ _ => pts_nil) (fun _ _ _ _ _ => (pe_ix (ix_listK K rfl) (pv 8) (pv 6) (fun _ _ => rfl))))) pa_nil)))))
  (pss_one (ps_ret (pe_tup (pa_cons (pe_callTy call_tuple_of (by rfl) B.tuple (by decide +kernel) (pa_cons (pv 5) pa_nil)) (pa_cons (pe_callTy call_tuple_of (by rfl) B.tuple (by decide +kernel) (pa_cons (lcG (pe_lc (own := [("_", 7), ("c", 9)]) rfl sc_squares_of.nd (pi_list (pv 2)) (blkOk_by (own := [("_", 7), ("c", 9)]) (N := N_squares_of) (sc := defScope s_squares_of) (by decide +kernel)) (fun _ _ _ _ _ => (tupK K rfl (pg_tup (n := 3) rfl (pgs_cons (pg_name (i := 7) sc_squares_of.nd rfl (Or.inl rfl)) (pgs_cons (pg_name (i := 9) sc_squares_of.nd rfl (Or.inl rfl)) (pgs_cons (pg_name (i := 7) sc_squares_of.nd rfl (Or.inl rfl)) pgs_nil)))))) (fun _ _ _ _ _ => pts_nil) (fun _ _ _ _ _ => (pv 9)))) pa_nil)) pa_nil)))))))), ?_⟩
    obtain ⟨p, vs, rfl, hp, hl, row⟩ := hM.at
    refine ⟨_, rfl, _, n, G, rfl, hM, n4, sy, com, fun W st lo pe vw vss H1 ei np s1 hpe lq ls => ?_⟩
    refine ⟨pe, _, rfl, SqT.of hpe, rfl, _, _, rfl, _, _, rfl, rfl, ?_⟩
    obtain ⟨pD, vD, rfl, hD, lD, rowD⟩ := lq.at
    have len4 : st.length ≤ 4 := by have := ei.len; have := ei.lon; omega
    obtain ⟨ps, us, rfl, hps, ars, srcs⟩ := ls.src (K := K)
    refine ⟨_, rfl, pD, rfl, ⟨_, SqL.of hD⟩, for_list (K := K) (a := pD) (xs := vD) (fun i σ H' => ∃ (a b : Option V), σ = [some (.ref p), some (.ref pD), some (.ref ps), a, b, none, none, none, none, none] ∧ Same H1 H' ∧ ∀ x y, x < i → y < n → W x y = 0)
      ⟨none, none, rfl, Same.refl _, fun x y h => absurd h (by omega)⟩ (fun i σ H' _ ⟨_, _, _, s2, _⟩ => SqL.of (s2 _ _ hD)) ?_ ?_⟩
    · rintro i y σ H2 hi ⟨a, b, rfl, s2, z⟩
      have hin : i < n := by rw [← lD]; exact (List.getElem?_eq_some_iff.mp hi).1
      obtain ⟨px, ux, ex, hpx, lx, itx⟩ := rowD i hin
      rw [ex] at hi
      cases hi
      have hx2 := s2 _ _ hpx
      refine ⟨_, rfl, px, rfl, ⟨_, SqL.of hx2⟩, for_list (K := K) (a := px) (xs := ux) (fun j σ H' => ∃ (b : Option V), σ = [some (.ref p), some (.ref pD), some (.ref ps), some (.ref px), b, none, none, none, none, none] ∧ Same H1 H' ∧ (∀ x y, x < i → y < n → W x y = 0) ∧ ∀ y, y < j → W i y = 0)
        ⟨b, rfl, s2, z, fun y h => absurd h (by omega)⟩ (fun i σ H' _ ⟨_, _, s2, _⟩ => SqL.of (s2 _ _ hpx)) ?_ ?_⟩
      · rintro j y σ H3 hj ⟨b, rfl, s3, z1, z2⟩
        have hjn : j < n := by rw [← lx]; exact (List.getElem?_eq_some_iff.mp hj).1
        obtain ⟨v, ev, rv⟩ := itx j hjn
        rw [ev] at hj
        cases hj
        refine ⟨_, rfl, _, rv.same s3, fun H4 s4 => ⟨_, rfl, ?_⟩⟩
        by_cases e0 : W i j = 0
        · rw [decide_eq_true e0]
          refine iteF ⟨_, rfl, s3.trans s4, z1, fun y hy => ?_⟩
          rcases Nat.lt_or_ge y j with l | l
          · exact z2 y l
          · have : y = j := by omega
            rw [this]; exact e0
        · rw [decide_eq_false e0]
          refine iteT ?_
          exact qf ⟨W, st, lo, ei, np, i, j, hin, hjn, e0⟩ H4 (s1.trans (s3.trans s4))
      · rintro σ H3 ⟨b, rfl, s3, z1, z2⟩
        refine ⟨_, _, rfl, s3, fun x y hx hy => ?_⟩
        rcases Nat.lt_or_ge x i with l | l
        · exact z1 x y l hy
        · have : x = i := by omega
          rw [this]
          exact z2 y (by omega)
    · rintro σ H2 ⟨a, b, rfl, s2, z⟩
      rw [lD] at z
      have good : Good n G st := ⟨W, lo, ei, fun a b ha hb => z a b ha hb⟩
      refine ⟨_, rfl, p, _, rfl, .inr (SqT.of (s2 _ _ (s1 _ _ hp))), (n : Int), by rw [hl], by omega, by omega, ?_⟩
      have en : (n : Int).toNat = n := by omega
      rw [en]
      refine lcN (src_range (lo := 0) (n := n)) (by omega) (R := fun j v H => TupA (RQ C (basisM st j)) st.length v H) rowT_rnl (by exact fun _ => rfl) ?_ ?_
      · intro j H3 hj s3 Qk hq
        have hps3 := s3 _ _ (s2 _ _ hps)
        have src := src_list (K := K) (H1 := H3) (a := ps) (SqL.of hps3)
        rw [ars.1] at src
        refine ⟨_, rfl, ps, rfl, ⟨_, SqL.of hps3⟩, ?_⟩
        refine lcT src (by omega) (R := RQ C (basisM st j)) RQ.rnl ?_ ?_
        · intro k H4 hk s4 Qk2 hq2
          have sk := (s2.trans s3).trans s4
          obtain ⟨_, pk, x, vc, vl, ev, ex, hk1, hk2, hk3⟩ := ars.item hk
          obtain ⟨ql, qs, rfl, hql, arq⟩ := hk3.same RQ.rnl.rs sk
          refine ⟨pk, _, ev, SqT.of (sk _ _ hk1), rfl, _, _, rfl, _, _, rfl, _, _, rfl, rfl, rfl, ?_⟩
          obtain ⟨v, ev2, rv⟩ := arq.get hj
          rw [Int.zero_add]
          refine ⟨_, rfl, _, rfl, ql, _, _, _, rfl, rfl, SqL.of hql, atI_nat ev2, ?_⟩
          refine hq2 v H4 (Same.refl _) ?_
          show IsR C (stL st k j) v H4
          unfold stL
          rw [ex]
          exact rv
        · intro D4 H4 ys s4 hE0 hE1 ar4
          refine ⟨D4, ys, rfl, .inl ⟨SqL.of hE1, fun l hl => ?_⟩⟩
          exact hq _ _ (s4.trans (Same.upd hl)) ⟨l, ys, rfl, upd_same, ar4.nl RQ.rnl (NL.of (Same.upd hl))⟩
      · intro bD H3 bs s3 hE0 hE1 arb
        refine ⟨_, rfl, bD, bs, rfl, .inl ⟨SqL.of hE1, fun l hl => ?_⟩⟩
        have s4 := Same.upd (o := .tup bs) hl
        have mb : MQ C (basisM st) n st.length (.ref l) (upd H3 l (.tup bs)) := ⟨l, bs, rfl, upd_same, arb.nl rowT_rnl (NL.of s4)⟩
        have sk0 := (s2.trans s3).trans s4
        have hps4 := sk0 _ _ hps
        have src := src_list (K := K) (H1 := upd H3 l (.tup bs)) (a := ps) (SqL.of hps4)
        rw [ars.1] at src
        refine ⟨_, rfl, ps, rfl, ⟨_, SqL.of hps4⟩, ?_⟩
        refine lcT src (by omega) (R := RQ C (stC st)) RQ.rnl ?_ ?_
        · intro k H5 hk s5 Qk2 hq2
          have sk := sk0.trans s5
          obtain ⟨_, pk, x, vc, vl, ev, ex, hk1, hk2, hk3⟩ := ars.item hk
          refine ⟨pk, _, ev, SqT.of (sk _ _ hk1), rfl, _, _, rfl, _, _, rfl, _, _, rfl, rfl, rfl, ?_⟩
          refine ⟨_, rfl, hq2 vc H5 (Same.refl _) ?_⟩
          show IsR C (stC st k) vc H5
          unfold K38.stC
          rw [ex]
          exact hk2.same sk
        · intro cD H5 cs s5 hE2 hE3 arc
          refine ⟨cD, cs, rfl, .inl ⟨SqL.of hE3, fun l2 hl2 => ?_⟩⟩
          have s6 := Same.upd (o := .tup cs) hl2
          refine ⟨(by show 2 ≤ sizeLine; decide), fun t ht => ?_⟩
          have s7 := Same.upd (o := .tup [.ref l, .ref l2]) ht
          refine qg st _ _ good ((s1.trans sk0).trans ((s5.trans s6).trans s7)) ⟨t, _, _, rfl, upd_same, mb.same ((s5.trans s6).trans s7), ?_⟩
          exact ⟨l2, cs, rfl, s7 _ _ upd_same, arc.nl RQ.rnl (NL.of (s6.trans s7))⟩
end
end KW
end

section
set_option Elab.async false
set_option linter.all false
set_option maxRecDepth 100000
set_option maxHeartbeats 4000000
set_option exponentiation.threshold 100000
namespace KW
open PySem PySem.Spec PyProof.Rows L2 K38
theorem sumQ4 {f : Nat → Rat} {m : Nat} (h : m ≤ 4) (z : ∀ k, m ≤ k → f k = 0) : sumQ f m = f 0 + f 1 + f 2 + f 3 := by
  match m, h with
  | 0, _ =>
    have := z 0 (by omega); have := z 1 (by omega); have := z 2 (by omega); have := z 3 (by omega)
    show (0 : Rat) = _
    grind
  | 1, _ =>
    have := z 1 (by omega); have := z 2 (by omega); have := z 3 (by omega)
    show (0 : Rat) + f 0 = _
    grind
  | 2, _ =>
    have := z 2 (by omega); have := z 3 (by omega)
    show (0 : Rat) + f 0 + f 1 = _
    grind
  | 3, _ =>
    have := z 3 (by omega)
    show (0 : Rat) + f 0 + f 1 + f 2 = _
    grind
  | 4, _ =>
    show (0 : Rat) + f 0 + f 1 + f 2 + f 3 = _
    grind
theorem stC_out {st : List Stp} {k : Nat} (h : st.length ≤ k) : K38.stC st k = 0 := by
  unfold K38.stC
  rw [List.getElem?_eq_none h]
theorem st_in {st : List Stp} {k : Nat} (h : k < st.length) : ∃ s ∈ st, K38.stC st k = s.2.1 ∧ stL st k = s.2.2 := by
  refine ⟨st[k], List.getElem_mem h, ?_, ?_⟩
  · unfold K38.stC
    rw [List.getElem?_eq_getElem h]
  · unfold stL
    rw [List.getElem?_eq_getElem h]
theorem good_len {n : Nat} {G : Mx} {st : List Stp} (h : Good n G st) (hn : n ≤ 4) : st.length ≤ 4 := by
  obtain ⟨W, lo, ei, _⟩ := h
  have := ei.len
  have := ei.lon
  omega
theorem good_sum {n : Nat} {G : Mx} {st : List Stp} (h : Good n G st) (hn : n ≤ 4) {a b : Nat} (ha : a < n) (hb : b < n) :
    G a b = K38.stC st 0 * stL st 0 a * stL st 0 b + K38.stC st 1 * stL st 1 a * stL st 1 b + K38.stC st 2 * stL st 2 a * stL st 2 b + K38.stC st 3 * stL st 3 a * stL st 3 b := by
  have l := good_len h hn
  obtain ⟨W, lo, ei, z⟩ := h
  rw [ei.dec a b, z a b ha hb, sumS4 st a b l]
  grind
theorem good_pos {n : Nat} {G : Mx} {st : List Stp} (h : Good n G st) {k : Nat} (hk : k < st.length) : 0 < K38.stC st k := by
  obtain ⟨W, lo, ei, z⟩ := h
  obtain ⟨s, hs, e, _⟩ := st_in hk
  rw [e]
  exact ei.pos s hs
theorem good_sz {n : Nat} {G : Mx} {st : List Stp} (h : Good n G st) {k : Nat} (hk : k < st.length) : Sz 263 263 (K38.stC st k) ∧ ∀ j, j < n → Sz 263 263 (stL st k j) := by
  obtain ⟨W, lo, ei, z⟩ := h
  obtain ⟨s, hs, e, e2⟩ := st_in hk
  obtain ⟨v, d, u, v0, v1, d0, d1, ec, hu⟩ := ei.coms s hs
  rw [e, e2]
  refine ⟨?_, fun j hj => ?_⟩
  · rw [ec]
    refine sz_div d0 d1 ?_
    have := p2 263
    omega
  · have := hu j hj
    rw [this.2]
    exact sz_div v0 v1 this.1
theorem coord_sz {n : Nat} {G : Mx} {st : List Stp} (h : Good n G st) {k : Nat} (hk : k < st.length) {x : Nat} (hx : x < n + 1) : Sz 263 263 (coordM st x k) := by
  unfold coordM
  by_cases e : x = 0
  · rw [if_pos e]
    exact sz_zero.mono (by decide) (by decide)
  · rw [if_neg e]
    exact (good_sz h hk).2 _ (by omega)
/-- what a term of the sum is -/
def holdF (st : List Stp) (x y : Nat) : Nat → Rat := fun k => K38.stC st k * (coordM st x k - coordM st y k) * (coordM st x k - coordM st y k)
theorem hold_sz {n : Nat} {G : Mx} {st : List Stp} (h : Good n G st) {k : Nat} (hk : k < st.length) {x y : Nat} (hx : x < n + 1) (hy : y < n + 1) : Sz 1600 1600 (holdF st x y k) := by
  have d := sz_sub (e := 527) (coord_sz h hk hx) (coord_sz h hk hy) (by decide) (by decide)
  exact (sz_mul (sz_mul (good_sz h hk).1 d) d).mono (by decide) (by decide)
theorem hold_eq {n : Nat} {G r : Mx} {st : List Stp} (h : Good n G st) (hn : n ≤ 4) (met : QMet (n + 1) r) (eg : ∀ a b, a < n → b < n → gramQ r a b = G a b) {x y : Nat} (hx : x < n + 1) (hy : y < n + 1) :
    sumQ (holdF st x y) st.length = r x y * r x y := by
  rw [sumQ4 (good_len h hn) (fun k hk => by unfold holdF; rw [stC_out hk]; grind)]
  have gs : ∀ a b, a < n → b < n → (r 0 (a + 1) * r 0 (a + 1) + r 0 (b + 1) * r 0 (b + 1) - r (a + 1) (b + 1) * r (a + 1) (b + 1)) / 2 = K38.stC st 0 * stL st 0 a * stL st 0 b + K38.stC st 1 * stL st 1 a * stL st 1 b + K38.stC st 2 * stL st 2 a * stL st 2 b + K38.stC st 3 * stL st 3 a * stL st 3 b :=
    fun a b ha hb => (eg a b ha hb).trans (good_sum h hn ha hb)
  unfold holdF coordM
  rcases x with _ | i
  · rcases y with _ | j
    · have := met.zero 0 hx
      simp only [if_true]
      grind
    · have g := gs j j (by omega) (by omega)
      have z := met.zero (j + 1) hy
      have e1 : ¬ (j + 1 = 0) := by omega
      simp only [if_true, if_neg e1, Nat.add_sub_cancel]
      grind
  · rcases y with _ | j
    · have g := gs i i (by omega) (by omega)
      have z := met.zero (i + 1) hx
      have s := met.sy (i + 1) 0 hx hy
      have e1 : ¬ (i + 1 = 0) := by omega
      simp only [if_true, if_neg e1, Nat.add_sub_cancel]
      grind
    · have g1 := gs i i (by omega) (by omega)
      have g2 := gs j j (by omega) (by omega)
      have g3 := gs i j (by omega) (by omega)
      have z1 := met.zero (i + 1) hx
      have z2 := met.zero (j + 1) hy
      have e1 : ¬ (i + 1 = 0) := by omega
      have e2 : ¬ (j + 1 = 0) := by omega
      simp only [if_neg e1, if_neg e2, Nat.add_sub_cancel]
      grind
end KW
end

section
set_option Elab.async false
set_option linter.all false
set_option maxRecDepth 100000
set_option maxHeartbeats 4000000
set_option exponentiation.threshold 100000
namespace KW
open PySem PySem.Spec PyProof.Rows L2 K38
section
variable {P : Program} {w : World} {K : PySem.W.Frag} {mg : Str → Option Value} {base : Heap} {C : Addr}
abbrev s_coordinates_hold : Stmt := top 53
abbrev N_coordinates_hold : List Str := ["_law_m", "_law_told", "_law_basis", "_law_squares", "_law_n", "_law_x", "_law_y", "_law_steps", "_law_k", "_law_c"]
theorem sc_coordinates_hold : FnScope N_coordinates_hold ["_law_m", "_law_told"] (defScope s_coordinates_hold) := ⟨rfl, rfl, rfl, by decide +kernel, rfl, by decide +kernel, by decide +kernel⟩
theorem filter_none {n : Nat} {p : Nat → Bool} (h : ∀ i, i < n → p i = false) : (List.range n).filter p = [] :=
  List.filter_eq_nil_iff.mpr fun i hi => by rw [h i (List.mem_range.mp hi)]; simp
theorem ok_hold {M f fs : Addr} {fd fds : FuncData} (F : Fun K "_law_coordinates_hold" "_law_coordinates_hold" s_coordinates_hold f fd) (T : RO P w K mg base C) (B : NM mg) (cl : Cls K M) (nN : NoAttr K M "n") (nR : NoAttr K M "rows")
    (G_sum : FnAt P w K mg base CX0 8 "_law_sum" fs fds ["_law_numbers"] [] (spSum C)) : FnOk P w K mg base CX0 10 f fd ["_law_m", "_law_told"] (spHold M C) := by
  refine F.ok sc_coordinates_hold (fun vs H Q E h => ?_) (fun cdv A outer s H vs Q E hr h => ?_)
  · obtain ⟨v, u, n, G, r, st, rfl, _⟩ := h
    rfl
  · obtain ⟨v, u, n, G, r, st, rfl, hM, n4, sz, met, eg, good, hC, q⟩ := h
    refine ⟨_, (pss_cons (ps_asg (pv 1) (pg_tup (n := 2) rfl (pgs_cons (pg_name (i := 2) sc_coordinates_hold.nd rfl (Or.inr rfl)) (pgs_cons (pg_name (i := 3) sc_coordinates_hold.nd rfl (Or.inr rfl)) pgs_nil))))
  (pss_cons (ps_set (i := 4) sc_coordinates_hold.nd rfl (Or.inl rfl) (pe_fld (pv 0) rfl))
  (pss_cons (ps_if (PW.pt (pw_or (pt_cmpR op_ne (pe_callB call_len_seq (by rfl) B.len (by decide +kernel) (pa_cons (pv 2) pa_nil)) (pv 4) (nomark _)) (pw_or (pt_cmpR op_gt (pe_callB call_len_seq (by rfl) B.len (by decide +kernel) (pa_cons (lcG (pe_lc (own := [("_law_c", 9)]) (g := gName 9) rfl sc_coordinates_hold.nd (pi_tup (pv 3)) (blkOk_by (own := [("_law_c", 9)]) (N := N_coordinates_hold) (sc := defScope s_coordinates_hold) (by decide +kernel)) (fun _ _ _ _ _ => (pg_name (i := 9) sc_coordinates_hold.nd rfl (Or.inl rfl))) (fun _ _ _ _ _ => (pts_one (pt_cmpR op_le (T.pe_sign hr (pv 9)) pe_int (nomark _)))) (fun _ _ _ _ _ => (pv 9)))) pa_nil)) pe_int (nomark _)) (pw_or1 (pt_cmpR op_gt (pe_callB call_len_seq (by rfl) B.len (by decide +kernel) (pa_cons (lcG (pe_lc (own := [("_law_x", 5)]) (g := gName 5) rfl sc_coordinates_hold.nd (pi_tup (pe_ix ix_tup (pv 2) pe_int (fun _ _ => rfl))) (blkOk_by (own := [("_law_x", 5)]) (N := N_coordinates_hold) (sc := defScope s_coordinates_hold) (by decide +kernel)) (fun _ _ _ _ _ => (pg_name (i := 5) sc_coordinates_hold.nd rfl (Or.inl rfl))) (fun _ _ _ _ _ => (pts_one (pt_not (pt_val (T.pe_is_zero hr (pv 5)))))) (fun _ _ _ _ _ => (pv 5)))) pa_nil)) pe_int (nomark _)))))) (pss_one (ps_ret pe_bl)) pss_nil)
  (pss_cons (ps_for PassesOwn.never rfl (pi_range1 rfl B.range (pa_cons (pv 4) pa_nil)) (pg_name (i := 5) sc_coordinates_hold.nd rfl (Or.inr rfl))
  (pss_one (ps_for PassesOwn.never rfl (pi_range1 rfl B.range (pa_cons (pv 4) pa_nil)) (pg_name (i := 6) sc_coordinates_hold.nd rfl (Or.inr rfl))
  (pss_cons (ps_set (i := 7) sc_coordinates_hold.nd rfl (Or.inr rfl) (lcG (pe_lc (own := [("_law_k", 8)]) (g := gName 8) rfl sc_coordinates_hold.nd (pi_range1 rfl B.range (pa_cons (pe_callB call_len_seq (by rfl) B.len (by decide +kernel) (pa_cons (pv 3) pa_nil)) pa_nil)) (blkOk_by (own := [("_law_k", 8)]) (N := N_coordinates_hold) (sc := defScope s_coordinates_hold) (by decide +kernel)) (fun _ _ _ _ _ => (pg_name (i := 8) sc_coordinates_hold.nd rfl (Or.inl rfl))) (fun _ _ _ _ _ => pts_nil) (fun _ _ _ _ _ => (pe_op (T.opSub hr) (pe_ix (ix_tupK K rfl) (pe_ix (ix_tupK K rfl) (pv 2) (pv 5) (fun _ _ => rfl)) (pv 8) (fun _ _ => rfl)) (pe_ix (ix_tupK K rfl) (pe_ix (ix_tupK K rfl) (pv 2) (pv 6) (fun _ _ => rfl)) (pv 8) (fun _ _ => rfl)))))))
  (pss_one (ps_if (pt_cmpR (T.opNe hr) (pe_call G_sum.ok (hr.mono (by decide)) rfl G_sum.mgf G_sum.kp G_sum.b .nil pass0 (pa_cons (lcG (pe_lc (own := [("_law_k", 8)]) (g := gName 8) rfl sc_coordinates_hold.nd (pi_range1 rfl B.range (pa_cons (pe_callB call_len_seq (by rfl) B.len (by decide +kernel) (pa_cons (pv 3) pa_nil)) pa_nil)) (blkOk_by (own := [("_law_k", 8)]) (N := N_coordinates_hold) (sc := defScope s_coordinates_hold) (by decide +kernel)) (fun _ _ _ _ _ => (pg_name (i := 8) sc_coordinates_hold.nd rfl (Or.inl rfl))) (fun _ _ _ _ _ => pts_nil) (fun _ _ _ _ _ => (pe_op (T.opMul hr) (pe_op (T.opMul hr) (pe_ix (ix_tupK K rfl) (pv 3) (pv 8) (fun _ _ => rfl)) (pe_ix (ix_listK K rfl) (pv 7) (pv 8) (fun _ _ => rfl))) (pe_ix (ix_listK K rfl) (pv 7) (pv 8) (fun _ _ => rfl)))))) pa_nil)) (pe_op (T.opMul hr) (pe_ix ix_tup (pe_ix ix_tup (pe_fld (pv 0) rfl) (pv 5) (fun _ _ => rfl)) (pv 6) (fun _ _ => rfl)) (pe_ix ix_tup (pe_ix ix_tup (pe_fld (pv 0) rfl) (pv 5) (fun _ _ => rfl)) (pv 6) (fun _ _ => rfl))) (nomark _)) (pss_one (ps_ret pe_bl)) pss_nil))))))
  (pss_one (ps_ret pe_bl)))))), ?_⟩
    obtain ⟨pm, dx, vr, rfl, hpm, hR⟩ := hM
    obtain ⟨pR, vR, rfl, hpR, lR, rowR⟩ := hR.at
    obtain ⟨pu, vb, vs, rfl, hpu, mb, ms⟩ := hC
    obtain ⟨pB, vB, rfl, hpB, lB, rowB⟩ := mb.at
    obtain ⟨pS, vS, rfl, hpS, arS, srcS⟩ := ms.src (K := K)
    have l4 := good_len good n4
    refine ⟨_, rfl, pu, _, rfl, SqT.of hpu, rfl, _, _, rfl, _, _, rfl, rfl, ?_⟩
    refine ⟨_, rfl, pm, M, dx, _, _, rfl, hpm, cl, nN, (by exact rfl), ?_⟩
    refine ⟨_, rfl, pB, _, rfl, .inr (SqT.of hpB), _, rfl, rfl, _, rfl, iteNS (by rw [lB]) ?_⟩
    refine ⟨_, rfl, pS, rfl, ⟨_, SqT.of hpS⟩, ?_⟩
    refine lcF srcS (by omega) (fun _ => false) (by exact fun _ => rfl) ?_ ?_ ?_
    · intro i H1 hi s1 Qb hq
      obtain ⟨ev, rv⟩ := arS.item hi
      refine ⟨_, rfl, _, (IsR.same rv s1), fun H2 s2 => ⟨_, _, rfl, rfl, _, rfl, ?_⟩⟩
      have pos := good_pos good hi
      have sp := (@sgn_pos (K38.stC st i)).mpr pos
      rw [decide_eq_false (by omega)]
      exact hq H2 s2
    · intro i H1 hi s1 Qk hq
      exact ⟨_, rfl, hq⟩
    · intro D1 H1 s1 hD0 hD1
      rw [filter_none (fun _ _ => rfl)] at hD1
      refine ⟨D1, _, rfl, .inl (SqL.of hD1), _, _, rfl, rfl, _, rfl, decF (by simp) ?_⟩
      obtain ⟨p0, u0, x0, h0, l0, it0⟩ := rowB 0 (by omega)
      have src0 := src_tup (K := K) (H1 := H1) (a := p0) (SqT.of (s1 _ _ h0))
      rw [l0] at src0
      refine ⟨_, rfl, pB, _, _, _, rfl, rfl, SqT.of (s1 _ _ hpB), (by exact atI_nat (j := 0) x0), p0, rfl, ⟨_, SqT.of (s1 _ _ h0)⟩, ?_⟩
      refine lcF src0 (by omega) (fun _ => false) (by exact fun _ => rfl) ?_ ?_ ?_
      · intro i H2 hi s2 Qb hq
        obtain ⟨v0, ev0, rv0⟩ := it0 i hi
        have eg : u0.getD i .non = v0 := by simp only [List.getD, ev0]; rfl
        refine ⟨_, rfl, _, (by rw [eg]; exact (rv0.same s1).same s2), fun H3 s3 => ⟨_, rfl, ?_⟩⟩
        rw [decide_eq_true (show coordM st 0 i = 0 from rfl)]
        exact hq H3 s3
      · intro i H2 hi s2 Qk hq
        exact ⟨_, rfl, hq⟩
      · intro D2 H2 s2 hE0 hE1
        rw [filter_none (fun _ _ => rfl)] at hE1
        refine ⟨D2, _, rfl, .inl (SqL.of hE1), _, _, rfl, rfl, _, rfl, decF (by simp) ?_⟩
        have s12 := s1.trans s2
        have en : (((n + 1 : Nat) : Int)).toNat = n + 1 := by omega
        refine ⟨_, rfl, ((n + 1 : Nat) : Int), rfl, by omega, by omega, for_range (lo := 0) (n := (((n + 1 : Nat) : Int)).toNat) (fun x σ H' => ∃ (a b c : Option V), σ = [some (.ref pm), some (.ref pu), some (.ref pB), some (.ref pS), some (.int ((n + 1 : Nat) : Int)), a, b, c, none, none] ∧ Same H H') ⟨none, none, none, rfl, s12⟩ ?_ ?_⟩
        · rintro x σ H3 hx ⟨a, b, c, rfl, s3⟩
          have hxn : x < n + 1 := by omega
          rw [Int.zero_add]
          refine ⟨_, rfl, ((n + 1 : Nat) : Int), rfl, by omega, by omega, for_range (lo := 0) (n := (((n + 1 : Nat) : Int)).toNat) (fun y σ H' => ∃ (b c : Option V), σ = [some (.ref pm), some (.ref pu), some (.ref pB), some (.ref pS), some (.int ((n + 1 : Nat) : Int)), some (.int (x : Int)), b, c, none, none] ∧ Same H H') ⟨b, c, rfl, s3⟩ ?_ ?_⟩
          · rintro y σ H4 hy ⟨b, c, rfl, s4⟩
            have hyn : y < n + 1 := by omega
            rw [Int.zero_add]
            obtain ⟨px, ux, ex, hpx, lx, itx⟩ := rowB x hxn
            obtain ⟨py, uy, ey, hpy, ly, ity⟩ := rowB y hyn
            have el : (st.length : Int).toNat = st.length := by omega
            refine ⟨_, rfl, pS, _, rfl, .inr (SqT.of (s4 _ _ hpS)), (st.length : Int), by rw [arS.1], by omega, by omega, ?_⟩
            rw [el]
            refine lcN (src_range (lo := 0) (n := st.length)) (by omega) (R := RQ C (fun k => coordM st x k - coordM st y k)) RQ.rnl (by exact fun _ => rfl) ?_ ?_
            · intro k H5 hk s5 Qk hq
              rw [Int.zero_add]
              have s45 := s4.trans s5
              obtain ⟨vx, exk, rx⟩ := itx k hk
              obtain ⟨vy, eyk, ry⟩ := ity k hk
              refine ⟨_, rfl, _, rfl, pB, _, _, _, rfl, rfl, SqT.of (s45 _ _ hpB), atI_nat ex, _, rfl, px, _, _, _, rfl, rfl, SqT.of (s45 _ _ hpx), atI_nat exk, ?_⟩
              refine ⟨_, rfl, _, rfl, pB, _, _, _, rfl, rfl, SqT.of (s45 _ _ hpB), atI_nat ey, _, rfl, py, _, _, _, rfl, rfl, SqT.of (s45 _ _ hpy), atI_nat eyk, ?_⟩
              refine ⟨_, _, rx.same s45, ry.same s45, bigR_of (coord_sz good hk hxn) (coord_sz good hk hyn) (by decide) (by decide) (by decide), fun v6 H6 s6 r6 => ?_⟩
              exact hq v6 H6 s6 r6
            · intro dD H5 ds s5 dD0 dD1 ard
              have s45 := s4.trans s5
              refine ⟨_, rfl, pS, _, rfl, .inr (SqT.of (s45 _ _ hpS)), (st.length : Int), by rw [arS.1], by omega, by omega, ?_⟩
              rw [el]
              refine lcN (src_range (lo := 0) (n := st.length)) (by omega) (R := RQ C (holdF st x y)) RQ.rnl (by exact fun _ => rfl) ?_ ?_
              · intro k H6 hk s6 Qk hq
                rw [Int.zero_add]
                have s46 := s45.trans s6
                obtain ⟨vS', eS, rS⟩ := arS.get hk
                obtain ⟨vd, ed, rd⟩ := ard.get hk
                have rS' : IsR C (K38.stC st k) vS' H := rS
                have rd' : IsR C (coordM st x k - coordM st y k) vd H5 := rd
                have zS := (good_sz good hk).1
                have zd := sz_sub (e := 527) (coord_sz good hk hxn) (coord_sz good hk hyn) (by decide) (by decide)
                refine ⟨_, rfl, _, rfl, pS, _, _, _, rfl, rfl, SqT.of (s46 _ _ hpS), atI_nat eS, _, rfl, _, rfl, dD, _, _, _, rfl, rfl, SqL.of (s6 _ _ dD1), atI_nat ed, ?_⟩
                refine ⟨_, _, rS'.same s46, rd'.same s6, bigR_of zS zd (by decide) (by decide) (by decide), fun v7 H7 s7 r7 => ?_⟩
                refine ⟨_, rfl, _, rfl, dD, _, _, _, rfl, rfl, SqL.of ((s6.trans s7) _ _ dD1), atI_nat ed, ?_⟩
                refine ⟨_, _, r7, (rd'.same s6).same s7, bigR_of (sz_mul zS zd) zd (by decide) (by decide) (by decide), fun v8 H8 s8 r8 => ?_⟩
                exact hq v8 H8 (s7.trans s8) r8
              · intro eD H6 es s6 eD0 eD1 are
                refine ⟨_, st.length, holdF st x y, rfl, ⟨eD, es, rfl, eD1, are⟩, l4, fun i hi => hold_sz good hi hxn hyn, fun v7 H7 s7 r7 => ?_⟩
                rw [hold_eq good n4 met eg hxn hyn] at r7
                have s47 := s45.trans (s6.trans s7)
                obtain ⟨qx, wx, exr, hqx, lqx, itr⟩ := rowR x hxn
                obtain ⟨vxy, exy, rxy⟩ := itr y hyn
                refine ⟨_, rfl, pm, M, dx, _, _, rfl, s47 _ _ hpm, cl, nR, (by exact rfl), _, rfl, pR, _, _, _, rfl, rfl, SqT.of (s47 _ _ hpR), atI_nat exr, _, rfl, qx, _, _, _, rfl, rfl, SqT.of (s47 _ _ hqx), atI_nat exy, ?_⟩
                refine ⟨_, rfl, pm, M, dx, _, _, rfl, s47 _ _ hpm, cl, nR, (by exact rfl), _, rfl, pR, _, _, _, rfl, rfl, SqT.of (s47 _ _ hpR), atI_nat exr, _, rfl, qx, _, _, _, rfl, rfl, SqT.of (s47 _ _ hqx), atI_nat exy, ?_⟩
                have zr := sz x y hxn hyn
                refine ⟨_, _, rxy.same s47, rxy.same s47, bigR_of zr zr (by decide) (by decide) (by decide), fun v8 H8 s8 r8 => ?_⟩
                refine ⟨_, r7.same s8, r8, fun H9 s9 => ⟨_, rfl, iteF ?_⟩⟩
                exact ⟨_, _, rfl, (s47.trans s8).trans s9⟩
          · rintro σ H4 ⟨b, c, rfl, s4⟩
            exact ⟨_, _, _, rfl, s4⟩
        · rintro σ H3 ⟨a, b, c, rfl, s3⟩
          exact q H3 s3
end
end KW
end

section
set_option Elab.async false
set_option linter.all false
set_option maxRecDepth 100000
set_option maxHeartbeats 4000000
set_option exponentiation.threshold 100000
namespace KW
open PySem PySem.Spec PyProof.Rows L2 K38
theorem i_nn (t : Int) : 0 ≤ t * t := by
  rw [← Int.natAbs_mul_self']
  exact Int.mul_nonneg (Int.natCast_nonneg _) (Int.natCast_nonneg _)
theorem i_sq_le {x y : Int} (hy : 0 ≤ y) (h : x * x ≤ y * y) : x ≤ y := by
  rcases Int.lt_or_le y x with c | c
  · have c1 : y + 1 ≤ x := c
    have := Int.mul_le_mul c1 c1 (by omega) (by omega)
    have e : (y + 1) * (y + 1) = y * y + 2 * y + 1 := by grind
    omega
  · exact c
theorem i_sq_eq {x y : Int} (hx : 0 ≤ x) (hy : 0 ≤ y) (h : x * x = y * y) : x = y := by
  have a := i_sq_le hy (Int.le_of_eq h)
  have b := i_sq_le hx (Int.le_of_eq h.symm)
  omega
theorem p2sq (x : Int) : x ^ 2 = x * x := by rw [Int.pow_succ, Int.pow_succ, Int.pow_zero, Int.one_mul]
theorem d2_e (a b : Pt) : d2 a b = (a.1 - b.1) * (a.1 - b.1) + (a.2.1 - b.2.1) * (a.2.1 - b.2.1) + (a.2.2 - b.2.2) * (a.2.2 - b.2.2) := by
  unfold d2
  rw [p2sq, p2sq, p2sq]
theorem i_b {t : Int} (h : t.natAbs ≤ 40) : t * t ≤ 1600 := by
  rw [← Int.natAbs_mul_self']
  have := Nat.mul_le_mul h h
  omega
theorem i_0 {t : Int} (h : t * t ≤ 0) : t = 0 := by
  have := i_nn t
  exact (Int.mul_eq_zero.mp (show t * t = 0 by omega)).elim id id
theorem met_pts {L : List Pt} (ok : PtOk L) {D : Mi} (h : ∀ i j, i < L.length → j < L.length → 0 ≤ D i j ∧ D i j * D i j = d2 (pAt L i) (pAt L j)) : IsMet L.length D := by
  obtain ⟨l1, l5, nd, bd⟩ := ok
  have at_ : ∀ i (hi : i < L.length), pAt L i = L[i] := fun i hi => by unfold pAt; simp only [List.getD, List.getElem?_eq_getElem hi]; rfl
  refine ⟨fun x hx => ?_, fun x y hx hy => ?_, fun x y hx hy ne => ?_, fun x y hx hy => ?_, fun x y z hx hy hz => ?_⟩
  · have q := h x x hx hx
    have e : d2 (pAt L x) (pAt L x) = 0 := by rw [d2_e]; grind
    rw [e] at q
    exact (Int.mul_eq_zero.mp q.2).elim id id
  · have q := h x y hx hy
    have q2 := h y x hy hx
    refine i_sq_eq q.1 q2.1 ?_
    rw [q.2, q2.2, d2_e, d2_e]
    grind
  · have q := h x y hx hy
    rcases Int.lt_or_eq_of_le q.1 with c | c
    · exact c
    · exfalso
      rw [← c, d2_e] at q
      have a1 := i_nn ((pAt L x).1 - (pAt L y).1)
      have a2 := i_nn ((pAt L x).2.1 - (pAt L y).2.1)
      have a3 := i_nn ((pAt L x).2.2 - (pAt L y).2.2)
      have q2 := q.2
      have b1 := i_0 (t := (pAt L x).1 - (pAt L y).1) (by omega)
      have b2 := i_0 (t := (pAt L x).2.1 - (pAt L y).2.1) (by omega)
      have b3 := i_0 (t := (pAt L x).2.2 - (pAt L y).2.2) (by omega)
      have e : pAt L x = pAt L y := by
        refine Prod.ext (by omega) (Prod.ext (by omega) (by omega))
      rw [at_ x hx, at_ y hy] at e
      rcases Nat.lt_or_gt_of_ne ne with lt | lt
      · exact (List.pairwise_iff_getElem.mp nd) x y hx hy lt e
      · exact (List.pairwise_iff_getElem.mp nd) y x hy hx lt e.symm
  · have q := h x y hx hy
    have bx := bd _ (List.getElem_mem hx)
    have by_ := bd _ (List.getElem_mem hy)
    rw [← at_ x hx] at bx
    rw [← at_ y hy] at by_
    refine i_sq_le (by decide) ?_
    rw [q.2, d2_e]
    have c1 := i_b (t := (pAt L x).1 - (pAt L y).1) (by omega)
    have c2 := i_b (t := (pAt L x).2.1 - (pAt L y).2.1) (by omega)
    have c3 := i_b (t := (pAt L x).2.2 - (pAt L y).2.2) (by omega)
    omega
  · have q1 := h x y hx hy
    have q2 := h y z hy hz
    have q3 := h x z hx hz
    refine i_sq_le (by omega) ?_
    have e1 : ((D x y + D y z) * (D x y + D y z) : Int) = D x y * D x y + D y z * D y z + 2 * (D x y * D y z) := by grind
    rw [e1, q1.2, q2.2, q3.2]
    have cs : ((pAt L x).1 - (pAt L y).1) * ((pAt L y).1 - (pAt L z).1) + ((pAt L x).2.1 - (pAt L y).2.1) * ((pAt L y).2.1 - (pAt L z).2.1) + ((pAt L x).2.2 - (pAt L y).2.2) * ((pAt L y).2.2 - (pAt L z).2.2) ≤ D x y * D y z := by
      refine i_sq_le (Int.mul_nonneg q1.1 q2.1) ?_
      have e2 : (D x y * D y z * (D x y * D y z) : Int) = (D x y * D x y) * (D y z * D y z) := by grind
      rw [e2, q1.2, q2.2, d2_e, d2_e]
      generalize (pAt L x).1 - (pAt L y).1 = u1
      generalize (pAt L x).2.1 - (pAt L y).2.1 = u2
      generalize (pAt L x).2.2 - (pAt L y).2.2 = u3
      generalize (pAt L y).1 - (pAt L z).1 = v1
      generalize (pAt L y).2.1 - (pAt L z).2.1 = v2
      generalize (pAt L y).2.2 - (pAt L z).2.2 = v3
      have a1 := i_nn (u1 * v2 - u2 * v1)
      have a2 := i_nn (u1 * v3 - u3 * v1)
      have a3 := i_nn (u2 * v3 - u3 * v2)
      have e3 : (u1 * u1 + u2 * u2 + u3 * u3) * (v1 * v1 + v2 * v2 + v3 * v3) - (u1 * v1 + u2 * v2 + u3 * v3) * (u1 * v1 + u2 * v2 + u3 * v3) = (u1 * v2 - u2 * v1) * (u1 * v2 - u2 * v1) + (u1 * v3 - u3 * v1) * (u1 * v3 - u3 * v1) + (u2 * v3 - u3 * v2) * (u2 * v3 - u3 * v2) := by grind
      omega
    rw [d2_e, d2_e, d2_e]
    have e4 : ((pAt L x).1 - (pAt L z).1) * ((pAt L x).1 - (pAt L z).1) + ((pAt L x).2.1 - (pAt L z).2.1) * ((pAt L x).2.1 - (pAt L z).2.1) + ((pAt L x).2.2 - (pAt L z).2.2) * ((pAt L x).2.2 - (pAt L z).2.2) =
        ((pAt L x).1 - (pAt L y).1) * ((pAt L x).1 - (pAt L y).1) + ((pAt L x).2.1 - (pAt L y).2.1) * ((pAt L x).2.1 - (pAt L y).2.1) + ((pAt L x).2.2 - (pAt L y).2.2) * ((pAt L x).2.2 - (pAt L y).2.2) +
        (((pAt L y).1 - (pAt L z).1) * ((pAt L y).1 - (pAt L z).1) + ((pAt L y).2.1 - (pAt L z).2.1) * ((pAt L y).2.1 - (pAt L z).2.1) + ((pAt L y).2.2 - (pAt L z).2.2) * ((pAt L y).2.2 - (pAt L z).2.2)) +
        2 * (((pAt L x).1 - (pAt L y).1) * ((pAt L y).1 - (pAt L z).1) + ((pAt L x).2.1 - (pAt L y).2.1) * ((pAt L y).2.1 - (pAt L z).2.1) + ((pAt L x).2.2 - (pAt L y).2.2) * ((pAt L y).2.2 - (pAt L z).2.2)) := by grind
    omega
/-- no determinant of told points is below 0 -/
theorem pts_nn {L : List Pt} {n : Nat} (hn : L.length = n + 1) (n4 : n ≤ 4) {D : Mi} (h : ∀ i j, i < L.length → j < L.length → 0 ≤ D i j ∧ D i j * D i j = d2 (pAt L i) (pAt L j)) {S : List Nat} (hS : S ∈ parts n) : 0 ≤ detF S.length (sub (Tw D) S) := by
  have p := parts_ok n S hS
  have e := detF_D (Tw D) S (by omega)
  have cst : ∀ m : Int, ((2 * m : Int) : Rat) = 2 * (m : Rat) := fun m => by push_cast; rfl
  have dd := (dec_D (G := toR (Tw D)) (n := n) (r := 3) (c := fun k => if k < 3 then 2 else 0)
    (l := fun k a => ((match k with | 0 => (pAt L (a + 1)).1 - (pAt L 0).1 | 1 => (pAt L (a + 1)).2.1 - (pAt L 0).2.1 | 2 => (pAt L (a + 1)).2.2 - (pAt L 0).2.2 | _ => 0 : Int) : Rat)) S ⟨fun a b ha hb => ?_, fun k => ?_, fun k hk => ?_⟩ p.2).1
  · rw [← e] at dd
    exact_mod_cast dd
  · have q1 := (h 0 (a + 1) (by omega) (by omega)).2
    have q2 := (h 0 (b + 1) (by omega) (by omega)).2
    have q3 := (h (a + 1) (b + 1) (by omega) (by omega)).2
    have t : Tw D a b = 2 * (((pAt L (a + 1)).1 - (pAt L 0).1) * ((pAt L (b + 1)).1 - (pAt L 0).1) + ((pAt L (a + 1)).2.1 - (pAt L 0).2.1) * ((pAt L (b + 1)).2.1 - (pAt L 0).2.1) + ((pAt L (a + 1)).2.2 - (pAt L 0).2.2) * ((pAt L (b + 1)).2.2 - (pAt L 0).2.2)) := by
      unfold Tw
      rw [p2sq, p2sq, p2sq, q1, q2, q3, d2_e, d2_e, d2_e]
      grind
    show ((Tw D a b : Int) : Rat) = _
    rw [t]
    push_cast
    try simp only [show (0 : Nat) < 3 by decide, show (1 : Nat) < 3 by decide, show (2 : Nat) < 3 by decide, show ¬ (3 : Nat) < 3 by decide, if_true, if_false]
    grind
  · show (0 : Rat) ≤ if k < 3 then 2 else 0
    split <;> decide
  · show (if k < 3 then (2 : Rat) else 0) = 0
    rw [if_neg (by omega)]
end KW
end

section
set_option Elab.async false
set_option linter.all false
set_option maxRecDepth 100000
set_option maxHeartbeats 4000000
set_option exponentiation.threshold 100000
namespace KW
open PySem PySem.Spec PyProof.Rows L2 K38
def rOf (D : Mi) (a b : Int) : Mx := fun i j => ((D i j * a : Int) : Rat) / (b : Rat)
theorem cast_pos {x : Int} (h : 0 < x) : (0 : Rat) < (x : Rat) := by exact_mod_cast h
theorem r_mul (D : Mi) (a b : Int) (i j : Nat) : rOf D a b i j = (D i j : Rat) * ((a : Rat) / (b : Rat)) := by
  unfold rOf
  push_cast
  grind
theorem q_pos {a b : Int} (ha : 0 < a) (hb : 0 < b) : (0 : Rat) < (a : Rat) / (b : Rat) := by
  have h1 := cast_pos ha
  have h2 := cast_pos hb
  have e : (a : Rat) / (b : Rat) * (b : Rat) = (a : Rat) := by grind
  rcases Rat.le_total (a := 0) (b := (a : Rat) / (b : Rat)) with c | c
  · rcases Rat.le_iff_lt_or_eq.mp c with c | c
    · exact c
    · rw [← c] at e
      grind
  · have := Rat.mul_nonneg (a := -((a : Rat) / (b : Rat))) (b := (b : Rat)) (by grind) (by grind)
    grind
theorem m_pos {x y : Rat} (hx : 0 < x) (hy : 0 < y) : 0 < x * y := Rat.mul_pos hx hy
theorem r_gram (D : Mi) (a b : Int) (i j : Nat) : gramQ (rOf D a b) i j = ((a : Rat) / (b : Rat)) * ((a : Rat) / (b : Rat)) / 2 * toR (Tw D) i j := by
  have t : toR (Tw D) i j = (D 0 (i + 1) : Rat) * (D 0 (i + 1) : Rat) + (D 0 (j + 1) : Rat) * (D 0 (j + 1) : Rat) - (D (i + 1) (j + 1) : Rat) * (D (i + 1) (j + 1) : Rat) := by
    show ((Tw D i j : Int) : Rat) = _
    unfold Tw
    rw [p2sq, p2sq, p2sq]
    push_cast
    rfl
  rw [t]
  unfold gramQ
  rw [r_mul, r_mul, r_mul]
  grind
theorem r_told (D : Mi) {a b : Int} (hb : 0 < b) (i j : Nat) : ((Tw D i j * a ^ 2 : Int) : Rat) / ((2 * b ^ 2 : Int) : Rat) = gramQ (rOf D a b) i j := by
  rw [r_gram, p2sq, p2sq]
  have h2 := cast_pos hb
  push_cast
  show (toR (Tw D) i j * _) / _ = _
  generalize toR (Tw D) i j = T
  grind
theorem qmet_of {n : Nat} {D : Mi} (met : IsMet n D) {a b : Int} (a1 : 1 ≤ a) (a4 : a ≤ 4) (b1 : 1 ≤ b) (b3 : b ≤ 3) : QMet n (rOf D a b) := by
  have q := q_pos (a := a) (b := b) (by omega) (by omega)
  have cc : ∀ {x y : Int}, x ≤ y → (x : Rat) ≤ (y : Rat) := fun h => by exact_mod_cast h
  refine ⟨fun x hx => ?_, fun x y hx hy => ?_, fun x y hx hy ne => ?_, fun x y z hx hy hz => ?_, fun x y hx hy => ?_⟩
  · rw [r_mul, met.zero x hx]
    have : ((0 : Int) : Rat) = 0 := rfl
    rw [this]
    grind
  · rw [r_mul, r_mul, met.sy x y hx hy]
  · rw [r_mul]
    exact m_pos (cast_pos (met.pos x y hx hy ne)) q
  · rw [r_mul, r_mul, r_mul]
    have t := cc (met.tri x y z hx hy hz)
    have t2 : (0 : Rat) ≤ (D x y : Rat) + (D y z : Rat) - (D x z : Rat) := by
      push_cast at t
      grind
    have := Rat.mul_nonneg t2 (Rat.le_of_lt q)
    grind
  · refine sz_div (by omega) (by omega) ?_
    have u := met.big x y hx hy
    have l : 0 ≤ D x y := by
      by_cases e : x = y
      · rw [e, met.zero y hy]
        exact Int.le_refl 0
      · exact Int.le_of_lt (met.pos x y hx hy e)
    have m1 : D x y * a ≤ 10000 * 4 := Int.mul_le_mul u a4 (by omega) (by decide)
    have m2 : 0 ≤ D x y * a := Int.mul_nonneg l (by omega)
    omega
theorem d_nn {n : Nat} {D : Mi} (met : IsMet n D) {x y : Nat} (hx : x < n) (hy : y < n) : 0 ≤ D x y ∧ D x y ≤ 10000 := by
  refine ⟨?_, met.big x y hx hy⟩
  by_cases e : x = y
  · rw [e, met.zero y hy]
    exact Int.le_refl 0
  · exact Int.le_of_lt (met.pos x y hx hy e)
theorem tw_b {n : Nat} {D : Mi} (met : IsMet (n + 1) D) {i j : Nat} (hi : i < n) (hj : j < n) : (Tw D i j).natAbs ≤ 200000000 := by
  have s : ∀ x y, x < n + 1 → y < n + 1 → 0 ≤ D x y ^ 2 ∧ D x y ^ 2 ≤ 100000000 := fun x y hx hy => by
    have d := d_nn met hx hy
    rw [p2sq]
    have := Int.mul_le_mul d.2 d.2 d.1 (by decide)
    exact ⟨i_nn _, by omega⟩
  have s1 := s 0 (i + 1) (by omega) (by omega)
  have s2 := s 0 (j + 1) (by omega) (by omega)
  have s3 := s (i + 1) (j + 1) (by omega) (by omega)
  unfold Tw
  omega
theorem tw_sy {n : Nat} {D : Mi} (met : IsMet (n + 1) D) {i j : Nat} (hi : i < n) (hj : j < n) : Tw D i j = Tw D j i := by
  unfold Tw
  rw [met.sy (i + 1) (j + 1) (by omega) (by omega)]
  omega
/-- the Gram table, 0 beyond its rows -/
def gOf (n : Nat) (D : Mi) (a b : Int) : Mx := fun i j => if i < n ∧ j < n then gramQ (rOf D a b) i j else 0
theorem gOf_in {n : Nat} {D : Mi} {a b : Int} {i j : Nat} (hi : i < n) (hj : j < n) : gOf n D a b i j = gramQ (rOf D a b) i j := if_pos ⟨hi, hj⟩
theorem gOf_sy {n : Nat} {D : Mi} (met : IsMet (n + 1) D) {a b : Int} (i j : Nat) : gOf n D a b i j = gOf n D a b j i := by
  by_cases h : i < n ∧ j < n
  · rw [gOf_in h.1 h.2, gOf_in h.2 h.1, r_gram, r_gram]
    show _ * ((Tw D i j : Int) : Rat) = _ * ((Tw D j i : Int) : Rat)
    rw [tw_sy met h.1 h.2]
  · unfold gOf
    rw [if_neg h, if_neg (fun z => h ⟨z.2, z.1⟩)]
theorem gOf_com {n : Nat} {D : Mi} (met : IsMet (n + 1) D) {a b : Int} (a1 : 1 ≤ a) (a4 : a ≤ 4) (b1 : 1 ≤ b) (b3 : b ≤ 3) : Com 32 5 n (gOf n D a b) := by
  refine ⟨fun i j => Tw D i j * a ^ 2, 2 * b ^ 2, ?_, ?_, fun i j hi hj => ⟨?_, ?_⟩⟩
  · rw [p2sq]
    have := Int.mul_pos (show 0 < b by omega) (show 0 < b by omega)
    omega
  · rw [p2sq]
    have := Int.mul_le_mul b3 b3 (by omega) (by decide)
    omega
  · have t := tw_b met hi hj
    have e : (a ^ 2).natAbs ≤ 16 := by
      rw [p2sq]
      have := Int.mul_le_mul a4 a4 (by omega) (by decide)
      have := i_nn a
      omega
    rw [Int.natAbs_mul]
    have := Nat.mul_le_mul t e
    exact Nat.lt_of_le_of_lt this (by decide)
  · rw [gOf_in hi hj, r_told D (by omega)]
theorem gOf_k {n : Nat} {D : Mi} {a b : Int} : ∀ i j, i < n → j < n → gOf n D a b i j = ((a : Rat) / (b : Rat)) * ((a : Rat) / (b : Rat)) / 2 * toR (Tw D) i j := fun i j hi hj => by rw [gOf_in hi hj, r_gram]
theorem k_pos {a b : Int} (ha : 0 < a) (hb : 0 < b) : (0 : Rat) < ((a : Rat) / (b : Rat)) * ((a : Rat) / (b : Rat)) / 2 := by
  have := m_pos (q_pos ha hb) (q_pos ha hb)
  grind
/-- what the answers are -/
theorem fails_low {n : Nat} (hn : n ≤ 4) {D : Mi} {a b : Int} (ha : 0 < a) (hb : 0 < b) (h : Fails n (gOf n D a b)) : ∃ S ∈ parts n, detF S.length (sub (Tw D) S) < 0 := by
  obtain ⟨W, st, lo, ei, np, hw⟩ := h
  exact low_of hn (k_pos ha hb) gOf_k ei np hw
theorem good_low {n : Nat} (hn : n ≤ 4) {D : Mi} {a b : Int} (ha : 0 < a) (hb : 0 < b) {st : List Stp} (h : Good n (gOf n D a b) st) :
    (∀ S ∈ parts n, 0 ≤ detF S.length (sub (Tw D) S)) ∧ (∀ S ∈ parts n, detF S.length (sub (Tw D) S) ≠ 0 → S.length ≤ st.length) ∧ ∃ S ∈ parts n, S.length = st.length ∧ detF S.length (sub (Tw D) S) ≠ 0 := by
  obtain ⟨W, lo, ei, hw⟩ := h
  exact good_of hn (k_pos ha hb) gOf_k ei hw
theorem rank_eq {n r r' : Nat} {T : Mi} (h1 : ∀ S ∈ parts n, detF S.length (sub T S) ≠ 0 → S.length ≤ r) (h2 : ∃ S ∈ parts n, S.length = r ∧ detF S.length (sub T S) ≠ 0) (h1' : ∀ S ∈ parts n, detF S.length (sub T S) ≠ 0 → S.length ≤ r')
    (h2' : ∃ S ∈ parts n, S.length = r' ∧ detF S.length (sub T S) ≠ 0) : r = r' := by
  obtain ⟨S, m, l, ne⟩ := h2
  obtain ⟨S', m', l', ne'⟩ := h2'
  have := h1 S' m' ne'
  have := h1' S m ne
  omega
end KW
end

section
set_option Elab.async false
set_option linter.all false
set_option maxRecDepth 100000
set_option maxHeartbeats 4000000
set_option exponentiation.threshold 100000
namespace KW
open PySem PySem.W PySem.Calls PyProof.Rows PySem.HandSPX
/-! ### ValueError.__init__ by way of super() -/
abbrev mwO (x : Addr) : Obj := ⟨.type "method-wrapper", none, .fields #[.builtin "ValueError.__init__", .ref x], #[]⟩
abbrev supO (D x C : Addr) : Obj := ⟨.type "super", none, .fields #[.ref D, .ref x, .ref C], #[]⟩
theorem vi_type : typeOf (.builtin "ValueError.__init__") = pure (.type "wrapper_descriptor") := by (show builtinType _ = _); (rw [builtinType_eq_fast]); kernel_rfl
theorem vi_name : (kfb_private% "nameAndClass") (Value.builtin "ValueError.__init__") = (pure (("__init__" : Str), Value.type "ValueError") : Sem (Str × Value)) := by kernel_rfl
section
variable {P : Program} {w : World} {A : Around} {E : Value → Shared → Prop} {hp : Heap} {gs : Array GenState} {dr : Drawn} {tk : Nat} {os : OsState} {x C D so : Addr}
theorem vi_get {R : Fin → Shared → Prop} {M : Model} (hv : Looks M hp (isInstance (.ref x) (.type "ValueError")) true) (q : R (.done (.ret (.ref hp.objs.size))) ⟨hp.push (mwO x), gs, dr, tk, os⟩) :
    wpAny M A (Builtin.«wrapper_descriptor.__get__» ⟨[.builtin "ValueError.__init__", .ref x, .ref C], []⟩) R E ⟨hp, gs, dr, tk, os⟩ := by
  unfold Builtin.«wrapper_descriptor.__get__»
  refine wpAny_bind (wpAny_of_eq (a := (.builtin "ValueError.__init__", some (.ref x), some (.ref C))) (by first | rfl | kernel_rfl) ?_)
  show wpAny M A ((kfb_private% "checkInstance") (.builtin "ValueError.__init__") (.ref x) >>= fun _ => newFields "method-wrapper" [.builtin "ValueError.__init__", .ref x] >>= fun r => ret r) R E _
  refine wpAny_bind (?_ : wpAny M A ((kfb_private% "nameAndClass") (.builtin "ValueError.__init__") >>= _) _ E _)
  refine wpAny_bind (wpAny_of_eq vi_name (?_ : wpAny M A (isInstance (.ref x) (.type "ValueError") >>= _) _ E _))
  exact wpAny_bind (hv.at (W.KFB.if_not rfl (wpAny_pure (wpAny_bind (wpAny_newObj_type (wpAny_pure q))))))
theorem vi_ga {l0 l : List Value} {K : Frag} {tn : Tok} {R : Fin → Shared → Prop} (hso : hp.get? so = some (supO D x C)) (hno : Looks (model P w) hp (opaqueClassAbove (.ref C)) none) (hC : Looks (model P w) hp (mroOf (.ref C)) l0)
    (hl : (l0.dropWhile (· != .ref D)).drop 1 = l) (X : K.In hp) (hf : alongIn K "__init__" l = some (some (.builtin "ValueError.__init__"))) (hxC : x ≠ C) (hv : Looks (model P w) hp (isInstance (.ref x) (.type "ValueError")) true)
    (q : R (.done (.ret (.ref hp.objs.size))) ⟨hp.push (mwO x), gs, dr, tk, os⟩) : wpAny (model P w) A (Builtin.«super.__getattribute__» ⟨[.ref so, .str "__init__" tn], []⟩) R E ⟨hp, gs, dr, tk, os⟩ := by
  have n1 : (("__init__" : Str) == ("__class__" : Str)) = false := by decide +kernel
  have n2 : (Value.ref x == Value.ref C) = false := by simp [hxC]
  have sl := ESX.slot_wd.lookup
  have ti : Shared.TypeIs ⟨hp, gs, dr, tk, os⟩ (.builtin "ValueError.__init__") "wrapper_descriptor" := vi_type
  have td := vi_type
  have dat : (supO D x C).data = .fields #[.ref D, .ref x, .ref C] := rfl
  have f0 : (#[.ref D, .ref x, .ref C] : Array Value)[0]? = some (.ref D) := rfl
  have f1 : (#[.ref D, .ref x, .ref C] : Array Value)[1]? = some (.ref x) := rfl
  have f2 : (#[.ref D, .ref x, .ref C] : Array Value)[2]? = some (.ref C) := rfl
  unfold Builtin.«super.__getattribute__»
  repeat (first
    | (with_reducible refine wpAny_field hso dat f0 ?_)
    | (with_reducible refine wpAny_field hso dat f1 ?_)
    | (with_reducible refine wpAny_field hso dat f2 ?_)
    | (with_reducible refine ks_wpAny_notOpaque hno ?_)
    | ((with_reducible refine Looks.at hC ?_); rw [hl])
    | (refine ks_forIn_along X (fun _ _ => rfl) rfl ?_ hf)
    | (with_reducible refine wpAny_call_entry ESX.slot_wd ti ESX.entry_wd ?_ (ESX.args_wd _ _ _))
    | (with_reducible refine vi_get hv ?_)
    | (with_reducible refine ⟨_, rfl, ?_⟩)
    | (simp only [n1, n2, Bool.or_false, Bool.false_eq_true, if_false])
    | wp_step | dsimp only)
  all_goals exact q
theorem vi_method {l0 l : List Value} {K : Frag} {pl : Sem Bool} {R : Value × List Value → Shared → Prop} (hso : hp.get? so = some (supO D x C)) (hno : Looks (model P w) hp (opaqueClassAbove (.ref C)) none) (hC : Looks (model P w) hp (mroOf (.ref C)) l0)
    (hl : (l0.dropWhile (· != .ref D)).drop 1 = l) (X : K.In hp) (hf : alongIn K "__init__" l = some (some (.builtin "ValueError.__init__"))) (hxC : x ≠ C) (hv : Looks (model P w) hp (isInstance (.ref x) (.type "ValueError")) true)
    (q : R (.ref hp.objs.size, []) ⟨hp.push (mwO x), gs, dr, tk + 1, os⟩) : wpAny (model P w) A (getMethod (.ref so) "__init__" pl) R E ⟨hp, gs, dr, tk, os⟩ := by
  have lk := F.ks_slot_super_ga.lookup
  have tt : ∀ t', (⟨hp, gs, dr, t', os⟩ : Shared).TypeIs (.ref so) "super" := fun _ => ⟨_, hso, rfl⟩
  unfold getMethod
  refine wpAny_bind (wpAny_specialOf (tt _) lk (?_ : wpAny _ _ (if (Manifest.canonical "super.__getattribute__" != "object.__getattribute__") = true then _ else _) _ _ _))
  rw [if_pos F.ks_canon_super_ga]
  unfold getAttr getAttrBy
  refine wpAny_bind (wpAny_bind (wpAny_mkText (wpAny_holding (wpAny_bind (wpAny_typeOf (tt _) (wpAny_bind (wpAny_of_eq lk (?_ : wpAny _ _ (getAttrByItsOwn (.ref so) (.str "__init__" tk) (.type "super") (.builtin "super.__getattribute__") true false) _ _ _)))))))) 
  unfold getAttrByItsOwn hookBefore callGetattribute boundAndCalled
  refine wpAny_bind (wpAny_of_eq (a := none) rfl ?_)
  refine wpAny_bind (wpAny_attempt (wpAny_holding (?_ : wpAny _ _ (bindSpecial (.builtin "super.__getattribute__") (.ref so) >>= _) _ _ _)))
  refine wpAny_bind (wpAny_of_eq (F.ks_slot_super_ga.bind (.ref so)) ?_)
  refine wpAny_mono (Q := fun u s' => u = .ref hp.objs.size ∧ s' = ⟨hp.push (mwO x), gs, dr, tk + 1, os⟩) (E := fun _ _ => False) (wpAny_call_entry F.ks_slot_super_ga (tt _) F.ks_entry_super_ga (vi_ga hso hno hC hl X hf hxC hv ⟨_, rfl, rfl, rfl⟩) (F.ks_gaArgs_super _ _)) ?_ ?_
  · rintro u s' ⟨rfl, rfl⟩
    exact wpAny_pure (wpAny_pure q)
  · intro _ _ z
    exact z.elim
theorem vi_callWith {M : Model} {s : Shared} {pos : Pos} {u : Addr} {env : Env} {e : Expr} {R : Value → Shared → Prop}
    (h : wpAny M A (spliced (backTo pos (starEach (e :: []) env))) (fun vs s1 => s1.heap.get? u = some (mwO x) ∧ wpAny M A (call (.ref u) ([] ++ vs)) R E s1) E s)
    (he : starEach (e :: []) env = (false, eval e env) :: starEach [] env) : wpAny M A (callWith pos (.ref u) [] (backTo pos (starEach (e :: []) env)) []) R E s := by
  have pl : (backTo pos (starEach (e :: []) env)).any (·.1) = false := by rw [he]; rfl
  have h2 : wpAny M A (evalArgs (.ref u) true (backTo pos (starEach (e :: []) env)) []) (fun a s1 => s1.heap.get? u = some (mwO x) ∧ wpAny M A (call (.ref u) ([] ++ a.pos) a.kw) R E s1) E s := by
    rw [he] at h ⊢
    exact evalArgs_plain h
  unfold callWith
  refine wpAny_bind (wpAny_holding (wpAny_mono h2 (fun a s1 h1 => wpAny_bind (wpAny_standAt ?_)) fun _ _ z => z))
  obtain ⟨ho, hc⟩ := h1
  simp only [pl, List.any_nil, Bool.or_false]
  refine wpAny_bind (m := keeperOf (.ref u)) ?_
  unfold keeperOf
  refine wpAny_bind (wpAny_load ho ?_)
  have k1 : (Value.type "method-wrapper" != Value.type "method") = true := by decide
  have k2 : (Value.type "method-wrapper" == Value.type "builtin_function_or_method" || Value.type "method-wrapper" == Value.type "method-wrapper") = true := by decide
  simp only [mwO, k1, k2, if_true]
  exact wpAny_pure (wpAny_bind (wpAny_mono hc (fun r s2 hr => wpAny_bind (wpAny_holding (wpAny_point (wpAny_pure hr)))) fun _ _ z => z))
theorem vi_call {nm q : Str} {N : Addr} {bs bm : List Value} {hd : Bool} {sn : List Str} {sub : List Value} {ab : Bool} {col : Option Bool} {dd : Option Addr} {k0 k1 k2 k3 k5 : Option Value} {u t0 : Addr} {us : List Value} {R : Value → Shared → Prop}
    (hC : hp.get? C = some (excClassObj nm q C N bs bm hd sn sub ab col dd k0 k1 k2 k3 k5 "ValueError.__new__")) (he : hp.get? x = some (excO C t0)) (hu : hp.get? u = some (mwO x)) (hus : us.length ≤ sizeLine)
    (hq : ∀ h' t1, (∀ b o, b ≠ x → hp.get? b = some o → h'.get? b = some o) → h'.get? x = some (excO C t1) → R .none ⟨h', gs, dr, tk, os⟩) : wpAny (model P w) A (call (.ref u) us) R E ⟨hp, gs, dr, tk, os⟩ := by
  refine wpAny_call (codeAny_of_tree (?_ : wpAny _ A.in1 (callAny (.ref u) ⟨us, []⟩) _ _ _))
  simp only [callAny]
  refine wpAny_bind (wpAny_load hu ?_)
  have z : (Value.type "method-wrapper" == Value.type "method" || Value.type "method-wrapper" == Value.type "builtin_function_or_method" || Value.type "method-wrapper" == Value.type "method-wrapper") = true := by decide
  simp only [mwO, z, if_true]
  refine W.KFB.if_so (by decide) (wpAny_bind (ESX.check_bound F.excBase_ValueError hC he rfl (wpAny_bind (wpAny_pure (wpAny_pure ⟨Code.quiet_builtin _ (by decide +kernel), codeAny_builtin F.excBase_ValueError.initEntry ?_⟩)))))
  rw [Around.under_plainId F.excBase_ValueError.init.plain]
  wp_walk
  refine hq _ hp.objs.size (fun b o hb ho => (Heap.get?_update_other _ _ (Ne.symm hb)).trans (Heap.get?_push_of_some _ ho)) ?_
  exact (Heap.get?_update_self _ (Heap.get?_push_of_some _ he) rfl).trans rfl
end
end KW
end

section
set_option Elab.async false
set_option linter.all false
set_option maxRecDepth 100000
set_option maxHeartbeats 4000000
set_option exponentiation.threshold 100000
namespace KW
open PySem PySem.W PySem.Calls PyProof.Rows PySem.HandSPX
abbrev s_Ref_init : Stmt := L2.inClass (top 6) 0
/-- what the written part says of Refused, at C, and of its __init__, at fI -/
structure RefTxt (P : Program) (K : Frag) (mg : Str → Option Value) (C fI : Addr) : Prop where
  gC : mg "Refused" = some (.ref C)
  sup : mg "super" = none
  cls : ∃ nm q N bs bm sn sub ab col dd k0 k1 k2 k3 k5, K.lookup C = some (excClassObj nm q C N bs bm true sn sub ab col dd k0 k1 k2 k3 k5 "ValueError.__new__") ∧ refsVE bm = true ∧ alongIn K "__init__" bm = some (some (.builtin "ValueError.__init__"))
  op : nsIn K cStatics "thirdparty.any" = some none
  sa : findIn K (.ref C) "__setattr__" = some (some (.builtin "object.__setattr__"))
  ga : findIn K (.ref C) "__getattribute__" = some (some (.builtin "BaseException.__getattribute__"))
  gg : findIn K (.ref C) "__getattr__" = some none
  noN : findIn K (.ref C) "reason" = some none
  iC : findIn K (.ref C) "__init__" = some (some (.ref fI))
  tC : typeIn K (.ref fI) = some (.type "function")
  kC : keepIn K (.ref C) = true
  exC : subIn K (.ref C) (.type "BaseException") = some true
  tyC : typeIn K (.ref C) = some (.type "type")
  hdC : hasDictIn K C = true
  te : exmOne K (.ref C) (.ref C) = some true
  ve : mroIn K C (.type "ValueError") = some true
  me : mroIn K C (.ref C) = some true
  fn : ∃ (oc : Value) (od : Option Addr) (doc pm : Value) (an : Option Addr) (cda cc : Addr) (ct : Value) (osl : Array (Option Value)) (ccl : Value) (cdd : Option Addr) (vs : Array Value) (ccs : Array (Option Value)) (file : Str) (tf : Tok) (cl : Value) (cld : Option Addr) (csl : Array (Option Value)),
    K.lookup fI = some ⟨oc, od, .func (ksFn "__init__" "Refused.__init__" (L2.defArgs s_Ref_init) (L2.defBody s_Ref_init) (L2.defScope s_Ref_init) .none .none doc pm an (.ref cda) ct cc), osl⟩ ∧ codeIn K (.ref cda) "Refused.__init__" = true ∧
    K.lookup cda = some ⟨ccl, cdd, .fields vs, ccs⟩ ∧ vs[2]? = some (.str file tf) ∧ ((P.main.file : Str) == file) = true ∧ K.lookup cc = some ⟨cl, cld, .cell (some (.ref C)), csl⟩
  htop : (P.main.scope.names.lookup ("super" : Str)).isSome = false
/-- what __init__ leaves of a new exception at x -/
structure RefEnd (h h' : Heap) (x C dx : Addr) (v : Value) : Prop where
  keep : ∀ b o, b ≠ x → h.get? b = some o → h'.get? b = some o
  obj : ∃ t1 : Addr, h'.get? x = some (⟨.ref C, some dx, .fields #[.ref t1, .none, .none, .none, .bool false, .none], #[]⟩ : Obj)
  big : h.objs.size ≤ dx
  ne : dx ≠ x
  ns : h'.Ns1 dx (fun y => if y = "reason" then some v else none)
theorem scR : ∀ x ∈ (L2.defScope s_Ref_init).names, x.2 ≠ .cell := by decide +kernel
theorem scL : (L2.defScope s_Ref_init).names.lookup ("self" : Str) = some .local ∧ (L2.defScope s_Ref_init).names.lookup ("reason" : Str) = some .local := by decide +kernel
section
variable {P : Program} {w : World} {A : Around} {R : Result → Shared → Prop} {s : Shared} {K : Frag} {mg : Str → Option Value} {base : Heap} {C fI : Addr}
theorem ref_init (T : RefTxt P K mg C fI) (M : L2.Mod K mg base) (hb : ∀ b o, base.get? b = some o → s.heap.get? b = some o) {x t0 : Addr} {v : Value} (hlim : s.heap.NoLimit) (hx : s.heap.get? x = some (excO C t0)) (hnx : K.lookup x = none) (hroom : A.depth < recursionLimit)
    (hq : ∀ h' tk dx, RefEnd s.heap h' x C dx v → R (.ok (.ret .none)) { s with heap := h', toks := tk }) : codeAny (model P w) A (.call (.ref fI) ⟨[.ref x, v], []⟩) R s := by
  obtain ⟨oc, od, doc, pm, an, cda, cc, ct, osl, ccl, cdd, vs, ccs, file, tf, cl, cld, csl, ho, hcd, hcda, hvs, hfile, hcc⟩ := T.fn
  obtain ⟨nm, q, N, bs, bm, sn, sub, ab, col, dd, k0, k1, k2, k3, k5, hC, hbm, hal⟩ := T.cls
  have hcl : clsIn K C = some ⟨nm, bs, .ref C :: bm, N, q, true, sn, sub, ab, col, false⟩ := by unfold clsIn; rw [hC] <;> rfl
  have X0 : K.In s.heap := M.kin.keeps hb
  obtain ⟨hp, gs, dr, tk, os⟩ := s
  refine ks_codeAny_call_defAt (fd := ksFn "__init__" "Refused.__init__" (L2.defArgs s_Ref_init) (L2.defBody s_Ref_init) (L2.defScope s_Ref_init) .none .none doc pm an (.ref cda) ct cc) (binds := [("self", .ref x), ("reason", v)])
    hroom (X0 _ _ ho) rfl hlim (codeRec_of X0 hcd) rfl (BindsTo.of_eq (by first | rfl | with_unfolding_all rfl)) scR (fun y hy => ?_) (fun h1 hns hk => ?_)
  · rcases List.mem_cons.mp hy with rfl | hy
    · exact scL.1
    · rcases List.mem_cons.mp hy with rfl | hy
      · exact scL.2
      · cases hy
  have L := hns.lt
  have X1 : K.In h1 := X0.keeps hk
  have hb1 : ∀ b o, base.get? b = some o → h1.get? b = some o := fun b o e => hk b o (hb b o e)
  obtain ⟨mb, hmb, hblt⟩ := M.blt
  have hC1 := X1 _ _ hC
  have hx1 := hk _ _ hx
  have hxs : hp.objs.size ≠ x := Nat.ne_of_gt (Heap.lt_size hx)
  have I1 : InstAt h1 x (excO C t0) C none := ⟨hx1, rfl, rfl, trivial⟩
  have hxC : x ≠ C := ks_ne X1 I1 hcl
  refine ks_wpAt_execs_cons (ks_wpAt_Expr_any (ks_wpAt_MethodCall ?_))
  refine ks_wpAt_super_base (by rfl) (by rfl) (by decide +kernel) (by rfl) (X1 _ _ ho) rfl (by rfl) (by rfl) (X1 _ _ hcda) rfl hvs hfile T.htop ?_
  refine ks_loadName_global (by rfl) (by rfl) (loadGlobal_builtin (M.glob.keeps hb1) T.sup (hmb.keeps hb1) ((hblt _ (by decide +kernel)).trans (by rfl : bootBuiltins "super" = some (.type "super"))) ⟨rfl, ?_⟩)
  refine wpAny_loadName_free (by rfl) (by rfl) (by rfl) ⟨_, X1 _ _ hcc, rfl⟩ ?_
  refine wpAny_loadName_local (v := .ref x) (by rfl) (by rfl) hns (by first | rfl | decide +kernel) ?_
  refine ks_wpAny_isType_cls hC1 rfl ⟨rfl, ?_⟩
  refine ks_wpAny_call_super hC1 rfl hx1 rfl (fun c e => by cases e) (looks_mroIn X1 T.me) (fun h2 hso k2 => ?_)
  have X2 : K.In h2 := X1.keeps k2
  have hx2 := k2 _ _ hx1
  have I2 : InstAt h2 x (excO C t0) C none := ⟨hx2, rfl, rfl, trivial⟩
  refine vi_method hso (looks_opaque X2 T.op) (l0 := .ref C :: bm) ((looks_clsIn X2 hcl).andThen .now) (ESX.drop_own C bm) X2 hal hxC (I2.type.andThen (looks_mroIn X2 T.ve)) ?_
  have k3 : ∀ b o, h2.get? b = some o → (h2.push (mwO x)).get? b = some o := fun b o e => Heap.get?_push_of_some _ e
  have hns3 := (hns.keeps k2).keeps k3
  refine vi_callWith (x := x) (spliced_more (wpAny_Name (wpAny_loadName_local (v := v) (by rfl) (by rfl) hns3 (by first | rfl | decide +kernel) (spliced_none ⟨Heap.get?_push_at rfl rfl, ?_⟩)) (by decide +kernel)) (by rfl)) (by rfl)
  refine vi_call (k3 _ _ (X2 _ _ hC)) (k3 _ _ hx2) (Heap.get?_push_at rfl rfl) (by rw [sizeLine_eq]; exact (by decide : 1 ≤ 16777216)) (fun h4 t1 k4 hx4 => ?_)
  have X4 : K.In h4 := fun a o e => k4 a o (fun z => by rw [z, hnx] at e; cases e) (k3 _ _ (X2 a o e))
  have hns4 := hns3.at (fun o e => k4 _ o hxs e)
  refine wpAt_of_wpAny (wpAny_execs_cons (plainObj_wpAny_Assign_Attribute ?_))
  refine wpAny_Name (wpAny_loadName_local (v := v) (by rfl) (by rfl) hns4 (by first | rfl | decide +kernel) ?_) (by decide +kernel)
  refine wpAny_Name (wpAny_loadName_local (v := .ref x) (by rfl) (by rfl) hns4 (by first | rfl | decide +kernel) ?_) (by decide +kernel)
  refine set_plain X4 (ox := excO C t1) (od := none) ⟨hx4, rfl, rfl, trivial⟩ T.sa ?_
  refine exc_osa X4 hx4 hcl (show refsVE (.ref C :: bm) = true from hbm) rfl T.noN (fun h5 tk5 dx k5 dn dne hx5 hn5 => ?_)
  refine (?_ : wpAny _ _ (execs _ _) _ _ _)
  have kall : ∀ b o, b ≠ x → hp.get? b = some o → h5.get? b = some o := fun b o hb e => k5 b o hb (k4 b o hb (k3 _ _ (k2 _ _ (hk _ _ e))))
  refine wpAny_execs_nil (hq h5 tk5 dx ⟨kall, ⟨t1, hx5⟩, ?_, dne, hn5⟩)
  exact Nat.le_of_lt (Nat.lt_of_lt_of_le hns4.lt dn)
end
end KW
end

section
set_option Elab.async false
set_option linter.all false
set_option maxRecDepth 100000
set_option maxHeartbeats 4000000
set_option exponentiation.threshold 100000
namespace KW
section
open PySem PySem.W PySem.Calls PyProof.Rows PySem.HandSPX
/-- a made Refused -/
structure RefMade (h h' : Heap) (e C d : Addr) (v : Value) : Prop where
  keep : ∀ b o, h.get? b = some o → h'.get? b = some o
  new : h.objs.size ≤ e
  obj : ∃ t1 : Addr, h'.get? e = some (⟨.ref C, some d, .fields #[.ref t1, .none, .none, .none, .bool false, .none], #[]⟩ : Obj)
  big : h.objs.size ≤ d
  ne : d ≠ e
  ns : h'.Ns1 d (fun y => if y = "reason" then some v else none)
theorem ref_made {P : Program} {w : World} {A : Around} {R : Result → Shared → Prop} {s : Shared} {K : Frag} {mg : Str → Option Value} {base : Heap} {C fI : Addr} (T : RefTxt P K mg C fI) (M : L2.Mod K mg base) (hb : ∀ b o, base.get? b = some o → s.heap.get? b = some o)
    {v : Value} (hlim : s.heap.NoLimit) (hroom : A.depth + 1 < recursionLimit) (hq : ∀ h' tk e d, RefMade s.heap h' e C d v → R (.ok (.ret (.ref e))) { s with heap := h', toks := tk }) : codeAny (model P w) A (.call (.ref C) ⟨[v], []⟩) R s := by
  obtain ⟨nm, q, N, bs, bm, sn, sub, ab, col, dd, k0, k1, k2, k3, k5, hC, hbm, hal⟩ := T.cls
  have X : K.In s.heap := M.kin.keeps hb
  obtain ⟨hp, gs, dr, tk, os⟩ := s
  have kk : ∀ b o, hp.get? b = some o → ((hp.push (kdv_tup [v])).push (excO C hp.objs.size)).get? b = some o := fun b o e => by
    have e1 := Heap.get?_push_of_some (kdv_tup [v]) e
    exact Heap.get?_push_of_some _ e1
  have new : ((hp.push (kdv_tup [v])).push (excO C hp.objs.size)).get? (hp.objs.size + 1) = some (excO C hp.objs.size) := by heap_get
  have nK : K.lookup (hp.objs.size + 1) = none := by
    rcases e : K.lookup (hp.objs.size + 1) with _ | o
    · rfl
    · have z : hp.get? (hp.objs.size + 1) = some o := X _ _ e
      exact (Nat.lt_irrefl _ (Nat.lt_of_succ_lt (Heap.lt_size z))).elim
  refine call_own F.excBase_ValueError (fun Y => refsVE_contains Y bm hbm) (X _ _ hC) (looks_findIn X T.iC) (fun self => bind_fn X self T.tC) (by rw [sizeLine_eq]; exact (by decide : 1 ≤ 16777216)) ?_
  refine ref_init (s := ⟨(hp.push (kdv_tup [v])).push (excO C hp.objs.size), gs, dr, tk, os⟩) T M (fun b o e => kk b o (hb b o e)) (hlim.keeps kk) new nK (by show A.depth + 1 < recursionLimit; exact hroom) fun h' tk' dx Z => ?_
  have big : hp.objs.size + 1 + 1 ≤ dx := by
    have z := Z.big
    first | exact z | simpa only [Heap.size_push] using z
  refine ⟨rfl, hq h' tk' (hp.objs.size + 1) dx ⟨fun b o e => ?_, Nat.le_succ _, Z.obj, Nat.le_trans (Nat.le_succ _) (Nat.le_trans (Nat.le_succ _) big), Z.ne, Z.ns⟩⟩
  have lt := Heap.lt_size e
  exact Z.keep b o (Nat.ne_of_lt (Nat.lt_succ_of_lt lt)) (kk b o e)
end
section
open PySem PySem.Spec PyProof.Rows L2
theorem relO_reason {v : V} {u : Value} (r : RelV v u) (f : Str) : RelO (List.lookup f ([(("reason" : Str), v)] : List (Str × V))) (if f = "reason" then some u else none) := by
  by_cases e : f = "reason"
  · rw [if_pos e, e, show List.lookup ("reason" : Str) ([(("reason" : Str), v)] : List (Str × V)) = some v by simp [List.lookup]]
    exact r
  · rw [if_neg e, show List.lookup f ([(("reason" : Str), v)] : List (Str × V)) = none by
      have z : (f == ("reason" : Str)) = false := by simpa using e
      simp [List.lookup, z]]
    exact True.intro
variable {X : Cx} {C fI : Addr}
/-- Refused(e) -/
def tMkRef (C : Addr) (ta : TA) : L2.St → Hp → XK → Prop := fun σ H Q => ta σ H fun vs H1 => ∃ v, vs = [v] ∧ ∀ d, H1 d = none → Q (.ref C) (some d) (L2.upd H1 d (.xd [(("reason" : Str), v)]))
theorem pmk_ref {a : Expr} {ta : TA} {p pos : Pos} {k : Nat} (T : RefTxt X.prog X.K X.mg C fI) (hr : Room k X.A) (ha : PA X [a] ta) (hg : Gl X "Refused") (he : starEach (a :: []) X.env = (false, eval a X.env) :: starEach [] X.env)
    (hpl : (backTo pos (starEach [] X.env)).any (·.1) = false) : PMk X (.Call (.Name "Refused" p) [a] [] pos) (tMkRef C ta) := by
  intro pins s σ H Q I h
  refine wpAny_Call_Name_kw (ld_glob I hg T.gC (PySem.W.callWith_K (h₀ := X.base) I.ok.mod.kin T.kC (thn (ha.run pos pins s σ H _ I h) fun us s1 hh => ?_) he hpl))
  obtain ⟨vs, H1, I1, r1, v, rfl, q1⟩ := hh
  refine ⟨I1.kIn, ?_⟩
  rcases r1 with _ | ⟨rv, rn⟩
  rcases rn with _ | _
  rename_i v'
  refine (?_ : wpAny _ _ (call (.ref C) [v']) _ _ _)
  have hlim := I1.nolimit
  have hbk := I1.bk
  obtain ⟨hp, g, dr, tk, os⟩ := s1
  refine wpAny_call (ref_made T I1.mod hbk hlim (by have := hr.dp; omega) fun h' tk' e d M => (?_ : MkP X pins σ Q (.ref e) ⟨h', g, dr, tk', os⟩))
  obtain ⟨t1, hoe⟩ := M.obj
  obtain ⟨G, g1, g2⟩ := restrict h' fun b => decide (b ≠ e)
  have gk : ∀ b, b ≠ e → G.get? b = h'.get? b := fun b z => g1 b (decide_eq_true z)
  have ge : G.get? e = none := g2 e (by simp)
  have old : ∀ b o, hp.get? b = some o → G.get? b = some o := fun b o z => by
    have lt := Heap.lt_size z
    have nw := M.new
    rw [gk b (Nat.ne_of_lt (Nat.lt_of_lt_of_le lt nw))]
    exact M.keep b o z
  have ok : ObjOk X.prog X.w (L2.upd H1 d (.xd [(("reason" : Str), v)])) G d (.xd [(("reason" : Str), v)]) := ⟨_, M.ns.at (fun o z => (gk d M.ne).trans z), fun f => relO_reason rv f⟩
  have J : Inv X pins σ (L2.upd H1 d (.xd [(("reason" : Str), v)])) ⟨G, g, dr, tk', os⟩ := I1.laid (t' := tk') old M.big ok
  have fresh := I1.hok.fresh M.new
  refine ⟨e, _, _, ⟨G, g, dr, tk', os⟩, _, .ref C, some d, rfl, J, fun b o z => ?_, ge, hoe, ⟨rfl, rfl⟩, rfl, rfl, ?_, rfl, I1.bare, raises_own T.exC T.tyC, q1 d (I1.hok.fresh M.big)⟩
  · by_cases hb : b = e
    · subst hb
      have z' : G.get? b = some o := z
      rw [ge] at z'
      cases z'
    · exact (gk b hb).symm.trans z
  · rw [upd_ne (Ne.symm M.ne)]
    exact fresh
/-- raise Refused(e) -/
def tRaiseRef (C : Addr) (W : WX) (ta : TA) : TS := fun _ σ H => tMkRef C ta σ H fun cls d H' => W cls d σ H'
theorem ps_raiseRef {a : Expr} {ta : TA} {W : WX} {p pos pos2 : Pos} {k : Nat} (hc : X.calm = true) (T : RefTxt X.prog X.K X.mg C fI) (hr : Room k X.A) (tk : Takes X W) (ha : PA X [a] ta) (hg : Gl X "Refused" := by rfl)
    (he : starEach (a :: []) X.env = (false, eval a X.env) :: starEach [] X.env := by rfl) (hpl : (backTo pos (starEach [] X.env)).any (·.1) = false := by rfl) :
    PS X (.Raise (some (.Call (.Name "Refused" p) [a] [] pos)) none pos2) (tRaiseRef C W ta) :=
  ps_raise hc tk (pmk_ref T hr ha hg he hpl)
/-- e.reason, e the exception that the suite holds -/
def tReason (C : Addr) (a : Addr) (cls : Value) (d : Option Addr) (te : TE) : TE := fun σ H Q => te σ H fun x H1 => x = .ref a ∧ cls = .ref C ∧ ∃ (b : Addr) (v : V), d = some b ∧ H1 b = some (.xd [(("reason" : Str), v)]) ∧ Q v H1
theorem pe_reason {a : Addr} {oe : Obj} {cls : Value} {d : Option Addr} {pn : List (Addr × Obj)} {e : Expr} {te : TE} {pos : Pos} (T : RefTxt X.prog X.K X.mg C fI) (hz : Zc cls d oe) (hf : ∃ vs, oe.data = .fields vs) (he : PE (X.suite a ((a, oe) :: pn)) e te)
    (hb : attributeBase e "reason" X.env (eval e X.env) = eval e X.env := by rfl) : PE (X.suite a ((a, oe) :: pn)) (.Attribute e "reason" pos) (tReason C a cls d te) := by
  refine ⟨fun pins s σ H Q I h => attr_of hb (thn (he.run pins s σ H _ I h) fun u s1 hh => ?_)⟩
  obtain ⟨x, H1, I1, rx, rfl, rfl, b, v, rfl, eb, q⟩ := hh
  obtain rfl : u = Value.ref a := rx
  have ha := (I1.pin (a, oe) (List.mem_append_left _ List.mem_cons_self)).1
  obtain ⟨fs, hd⟩ := hf
  have hx : ObjOk X.prog X.w H1 s1.heap b (.xd [(("reason" : Str), v)]) := I1.hok b _ eb
  obtain ⟨mA, hns, rel⟩ := hx
  obtain ⟨od, ho, hl⟩ := lookIn_ns hns
  have l : List.lookup ("reason" : Str) ([(("reason" : Str), v)] : List (Str × V)) = some v := by simp [List.lookup]
  have rel2 := rel "reason"
  rw [l] at rel2
  obtain ⟨u, hu, ru⟩ := RelO.some_of (v := v) (o := mA "reason") rel2
  have J : PySem.W.InstAt s1.heap a oe C (some od) := ⟨ha, hz.1, by unfold PySem.W.notCls; rw [hd] <;> rfl, by rw [hz.2]; exact ho⟩
  have fo := PySem.W.findObj_own (v := u) T.hdC T.noN rfl (by rw [hl, hu])
  exact HandSPX.exc_get I1.kIn J T.ga T.gg T.exC fo (handed_of ru) ⟨v, H1, I1.tok _, ru, q⟩
end
end KW
end

section
set_option Elab.async false
set_option linter.all false
set_option maxRecDepth 100000
set_option maxHeartbeats 4000000
set_option exponentiation.threshold 100000
namespace KW
open PySem PySem.Spec PyProof.Rows L2 K38
section
variable {P : Program} {w : World} {K : PySem.W.Frag} {mg : Str → Option Value} {base : Heap} {C : Addr}
theorem passF {X : Cx} : Passes (L2.CX X.prog X.w) X E0 := fun _ _ _ _ _ _ _ ⟨_, _, _, _, _, _, _, _, _, _, _, _, h⟩ => h.elim
theorem MQ.congr {G G' : Mx} {n m : Nat} {v : V} {H : Hp} (h : MQ C G n m v H) (e : ∀ a b, a < n → b < m → G a b = G' a b) : MQ C G' n m v H := by
  obtain ⟨p, vs, e1, hp, a⟩ := h
  refine ⟨p, vs, e1, hp, a.imp fun i v hi h2 => ?_⟩
  obtain ⟨q, us, e2, hq, b⟩ := h2
  refine ⟨q, us, e2, hq, b.imp fun j u hj r => ?_⟩
  have r' : IsR C (G i j) u H := r
  rw [e i j hi hj] at r'
  exact r'
theorem catA_of {a b : Addr} {xs ys : List V} {H : Hp} {Q : VK} (ha : H a = some (.tup xs)) (hb : H b = some (.tup ys)) (sz : xs.length + ys.length ≤ sizeLine) (q : ∀ p H', Same H H' → H' p = some (.tup (xs ++ ys)) → Q (.ref p) H') : rCatA K (.ref a) (.ref b) H Q :=
  ⟨a, b, xs, ys, rfl, rfl, SqT.of ha, SqT.of hb, sz, fun e => q b H (Same.refl _) (by rw [e]; exact hb), fun _ e => q a H (Same.refl _) (by rw [e, List.append_nil]; exact ha), fun _ _ p hp => q p _ (Same.upd hp) upd_same⟩
abbrev s_is_euclidean : Stmt := top 19
abbrev N_is_euclidean : List Str := ["m"]
theorem sc_is_euclidean : FnScope N_is_euclidean ["m"] (defScope s_is_euclidean) := ⟨rfl, rfl, rfl, by decide +kernel, rfl, by decide +kernel, by decide +kernel⟩
theorem ok_euc {M f fs fg : Addr} {fd fds fdg : FuncData} (F : Fun K "is_euclidean" "is_euclidean" s_is_euclidean f fd) (G_squares_of : FnAt P w K mg base CX0 11 "squares_of" fs fds ["rows"] [] (spSquares C)) (G_gram : FnAt P w K mg base CX0 9 "gram" fg fdg ["m"] [] (spGram M C)) :
    FnOk P w K mg base CX0 13 f fd ["m"] (spEuc M C) := by
  refine F.ok sc_is_euclidean (fun vs H Q E h => ?_) (fun cdv A outer s H vs Q E hr h => ?_)
  · obtain ⟨v, n, G, rfl, _⟩ := h
    rfl
  · obtain ⟨v, n, G, rfl, ⟨r, hM, n4, sz, eg, sy, com⟩, qf, qg⟩ := h
    refine ⟨_, (pss_one (ps_ret (pe_cmpR op_notN (pe_call G_squares_of.ok (hr.mono (by decide)) rfl G_squares_of.mgf G_squares_of.kp G_squares_of.b .nil pass0 (pa_cons (pe_call G_gram.ok (hr.mono (by decide)) rfl G_gram.mgf G_gram.kp G_gram.b .nil pass0 (pa_cons (pv 0) pa_nil)) pa_nil)) pe_non (nomark _)))), ?_⟩
    refine ⟨_, rfl, v, n, r, rfl, hM, by omega, sz, fun vg H1 s1 hG => ?_⟩
    refine ⟨vg, n, G, rfl, hG.congr eg, n4, sy, com, fun hf H2 s2 => ?_, fun st v2 H2 hg s2 hs => ?_⟩
    · exact ⟨rfl, qf hf H2 (s1.trans s2)⟩
    · obtain ⟨p, vb, vs, rfl, _⟩ := hs
      refine ⟨rfl, ?_⟩
      have e : (!decide (V.ref p = V.non)) = true := by simp
      rw [e]
      exact qg st H2 hg (s1.trans s2)
abbrev s_told_squares : Stmt := top 20
abbrev N_told_squares : List Str := ["m", "found"]
theorem sc_told_squares : FnScope N_told_squares ["m"] (defScope s_told_squares) := ⟨rfl, rfl, rfl, by decide +kernel, rfl, by decide +kernel, by decide +kernel⟩
theorem ok_toldsq {M FE fI f fs fg : Addr} {fd fds fdg : FuncData} (F : Fun K "told_squares" "told_squares" s_told_squares f fd) (RT : RefTxt P K mg FE fI) (G_squares_of : FnAt P w K mg base CX0 11 "squares_of" fs fds ["rows"] [] (spSquares C)) (G_gram : FnAt P w K mg base CX0 9 "gram" fg fdg ["m"] [] (spGram M C)) :
    FnOk P w K mg base (L2.CX P w) 13 f fd ["m"] (spToldSq M C FE) := by
  refine F.okX sc_told_squares (fun vs H Q E h => ?_) (fun cdv A outer s H vs Q E hr h => ?_)
  · obtain ⟨v, n, G, rfl, _⟩ := h
    rfl
  · obtain ⟨v, n, G, rfl, ⟨r, hM, n4, sz, eg, sy, com⟩, qf, qg⟩ := h
    refine ⟨_, (pss_cons (ps_set (i := 1) sc_told_squares.nd rfl (Or.inl rfl) (pe_call G_squares_of.ok (hr.mono (by decide)) rfl G_squares_of.mgf G_squares_of.kp G_squares_of.b .nil pass0 (pa_cons (pe_call G_gram.ok (hr.mono (by decide)) rfl G_gram.mgf G_gram.kp G_gram.b .nil pass0 (pa_cons (pv 0) pa_nil)) pa_nil)))
  (pss_cons (ps_if (pt_cmpR op_isN (pv 1) pe_non (nomark _)) (pss_one (ps_raiseRef rfl RT hr (takes_of rfl rfl rfl rfl) (pa_cons pe_str pa_nil))) pss_nil)
  (pss_one (ps_ret (pv 1))))), ?_⟩
    refine ⟨_, rfl, v, n, r, rfl, hM, by omega, sz, fun vg H1 s1 hG => ?_⟩
    refine ⟨vg, n, G, rfl, hG.congr eg, n4, sy, com, fun hf H2 s2 => ?_, fun st v2 H2 hg s2 hs => ?_⟩
    · refine ⟨_, rfl, rfl, _, rfl, decT rfl ?_⟩
      refine ⟨_, rfl, fun d hd => ?_⟩
      exact qf hf d _ ((s1.trans s2).trans (Same.upd hd)) upd_same
    · have hs' := hs
      obtain ⟨p, vb, vs, rfl, _⟩ := hs
      refine ⟨_, rfl, rfl, _, rfl, decF (by intro z; cases z) ?_⟩
      exact ⟨_, rfl, qg st _ H2 hg (s1.trans s2) hs'⟩
abbrev s_dimension : Stmt := top 21
abbrev N_dimension : List Str := ["m"]
theorem sc_dimension : FnScope N_dimension ["m"] (defScope s_dimension) := ⟨rfl, rfl, rfl, by decide +kernel, rfl, by decide +kernel, by decide +kernel⟩
theorem ok_dim {M FE f ft : Addr} {fd fdt : FuncData} (F : Fun K "dimension" "dimension" s_dimension f fd) (B : NM mg) (G_told_squares : FnAt P w K mg base (L2.CX P w) 13 "told_squares" ft fdt ["m"] [] (spToldSq M C FE)) : FnOk P w K mg base (L2.CX P w) 15 f fd ["m"] (spDim M C FE) := by
  refine F.okX sc_dimension (fun vs H Q E h => ?_) (fun cdv A outer s H vs Q E hr h => ?_)
  · obtain ⟨v, n, G, rfl, _⟩ := h
    rfl
  · obtain ⟨v, n, G, rfl, hM, qf, qg⟩ := h
    have pasW : ∀ X : Cx, Takes X (fun cls d _ H => E cls d H) → Passes (L2.CX X.prog X.w) X E := fun X tk => passes_call tk (fun _ _ _ _ h => h)
    refine ⟨_, (pss_one (ps_ret (pe_callB call_len_seq (by rfl) B.len (by decide +kernel) (pa_cons (pe_ix ix_tup (pe_call G_told_squares.ok (hr.mono (by decide)) rfl G_told_squares.mgf G_told_squares.kp G_told_squares.b .nil (pasW _ (takes_of rfl rfl rfl rfl)) (pa_cons (pv 0) pa_nil)) pe_int (fun _ _ => rfl)) pa_nil)))), ?_⟩
    refine ⟨_, rfl, v, n, G, rfl, hM, qf, fun st v2 H2 hg s2 hs => ?_⟩
    obtain ⟨p, vb, vs, rfl, hp, mb, p2, us, rfl, hp2, ar⟩ := hs
    refine ⟨p, _, _, _, rfl, rfl, SqT.of hp, (by exact rfl), p2, _, rfl, .inr (SqT.of hp2), ?_⟩
    rw [ar.1]
    exact qg st H2 hg s2
abbrev s_coordinates : Stmt := top 22
abbrev N_coordinates : List Str := ["m", "basis", "squares"]
theorem sc_coordinates : FnScope N_coordinates ["m"] (defScope s_coordinates) := ⟨rfl, rfl, rfl, by decide +kernel, rfl, by decide +kernel, by decide +kernel⟩
theorem ok_coord {M FE f ft fz : Addr} {fd fdt fdz : FuncData} (F : Fun K "coordinates" "coordinates" s_coordinates f fd) (B : NM mg) (G_zero : FnAt P w K mg base CX0 4 "zero" fz fdz [] [] (spZero C)) (G_told_squares : FnAt P w K mg base (L2.CX P w) 13 "told_squares" ft fdt ["m"] [] (spToldSq M C FE)) :
    FnOk P w K mg base (L2.CX P w) 15 f fd ["m"] (spCoord M C FE) := by
  refine F.okX sc_coordinates (fun vs H Q E h => ?_) (fun cdv A outer s H vs Q E hr h => ?_)
  · obtain ⟨v, n, G, rfl, _⟩ := h
    rfl
  · obtain ⟨v, n, G, rfl, hM, qf, qg⟩ := h
    have pasW : ∀ X : Cx, Takes X (fun cls d _ H => E cls d H) → Passes (L2.CX X.prog X.w) X E := fun X tk => passes_call tk (fun _ _ _ _ h => h)
    refine ⟨_, (pss_cons (ps_asg (pe_call G_told_squares.ok (hr.mono (by decide)) rfl G_told_squares.mgf G_told_squares.kp G_told_squares.b .nil (pasW _ (takes_of rfl rfl rfl rfl)) (pa_cons (pv 0) pa_nil)) (pg_tup (n := 2) rfl (pgs_cons (pg_name (i := 1) sc_coordinates.nd rfl (Or.inl rfl)) (pgs_cons (pg_name (i := 2) sc_coordinates.nd rfl (Or.inl rfl)) pgs_nil))))
  (pss_one (ps_ret (pe_tup (pa_cons (pe_op op_catA (pe_tup (pa_cons (pe_op op_rep1 (pe_tup (pa_cons (pe_call0 G_zero.ok (hr.mono (by decide)) rfl G_zero.mgf G_zero.kp G_zero.b .nil pass0) pa_nil)) (pe_callB call_len_seq (by rfl) B.len (by decide +kernel) (pa_cons (pv 2) pa_nil))) pa_nil)) (pv 1)) (pa_cons (pv 2) pa_nil)))))), ?_⟩
    have n4 : n ≤ 4 := by obtain ⟨r, _, n4, _⟩ := hM; exact n4
    refine ⟨_, rfl, v, n, G, rfl, hM, qf, fun st v2 H2 hg s2 hs => ?_⟩
    obtain ⟨p, vb, vs, rfl, hp, mb, sq⟩ := hs
    have sq' := sq
    obtain ⟨p2, us, rfl, hp2, ar⟩ := sq
    have mb' := mb
    obtain ⟨p1, ub, rfl, hp1, arb⟩ := mb
    have l4 : st.length ≤ 4 := by
      obtain ⟨W, lo, ei, _⟩ := hg
      have := ei.len
      have := ei.lon
      omega
    refine ⟨p, _, rfl, SqT.of hp, rfl, _, _, rfl, _, _, rfl, rfl, ?_⟩
    refine ⟨rfl, fun z H3 s3 r3 => ⟨(by show 1 ≤ sizeLine; decide), fun t ht => ?_⟩⟩
    have s4 := Same.upd (o := .tup [z]) ht
    have s34 := s3.trans s4
    refine ⟨_, rfl, p2, _, rfl, .inr (SqT.of (s34 _ _ hp2)), ?_⟩
    rw [ar.1]
    refine ⟨t, (st.length : Int), z, rfl, rfl, upd_same, by omega, by omega, fun pr H5 s5 h5 => ⟨(by show 1 ≤ sizeLine; decide), fun t2 ht2 => ?_⟩⟩
    have s6 := Same.upd (o := .tup [.ref pr]) ht2
    have s56 := s5.trans s6
    have s36 := s34.trans s56
    refine ⟨_, rfl, catA_of upd_same (s36 _ _ hp1) (by rw [arb.1]; exact Nat.le_trans (show 1 + n ≤ 8 by omega) (by decide)) fun pc H7 s7 h7 => ?_⟩
    have s67 := s6.trans s7
    have s37 := s36.trans s7
    refine ⟨_, rfl, (by show 2 ≤ sizeLine; decide), fun t3 ht3 => ?_⟩
    have s8 := Same.upd (o := .tup [.ref pc, .ref p2]) ht3
    have s38 := s37.trans s8
    refine qg st _ _ hg (s2.trans s38) ⟨t3, _, _, rfl, upd_same, ?_, sq'.same RQ.rnl.rs s38⟩
    refine ⟨pc, _, rfl, s8 _ _ h7, ?_⟩
    rw [Nat.add_comm n 1]
    refine Arr.app (R1 := fun i v H => v = .ref pr) (R2 := fun i v H => TupA (RQ C (basisM st i)) st.length v H) ⟨rfl, fun i v e => ?_⟩ (arb.nl rowT_rnl (NL.of s38)) ?_ ?_
    · have hi : i = 0 := by
        have := (List.getElem?_eq_some_iff.mp e).1
        simp at this; omega
      subst hi
      exact (Option.some.inj e).symm
    · intro i v hi e
      subst e
      have hi0 : i = 0 := by omega
      subst hi0
      refine ⟨pr, _, rfl, s8 _ _ (s67 _ _ h5), by rw [List.length_replicate]; omega, fun k u eu => ?_⟩
      have : u = z := by
        rw [List.getElem?_replicate] at eu
        split at eu
        · exact (Option.some.inj eu).symm
        · cases eu
      subst this
      exact r3.same (((s4.trans s56).trans s7).trans s8)
    · intro i v hi hv
      have : coordM st (1 + i) = basisM st i := by
        funext k
        show (if 1 + i = 0 then (0 : Rat) else stL st k (1 + i - 1)) = stL st k i
        rw [if_neg (by omega), Nat.add_sub_cancel_left]
      show TupA (RQ C (coordM st (1 + i))) st.length v _
      rw [this]
      exact hv
end
end KW
end

section
set_option Elab.async false
set_option linter.all false
set_option maxRecDepth 100000
set_option maxHeartbeats 4000000
set_option exponentiation.threshold 100000
namespace KW
open PySem PySem.Spec PyProof.Rows L2 K38
section
variable {P : Program} {w : World} {K : PySem.W.Frag} {mg : Str → Option Value} {base : Heap} {C : Addr}
abbrev s_reason : Stmt := top 51
abbrev N_reason : List Str := ["_law_which", "_law_m", "e"]
theorem sc_reason : FnScope N_reason ["_law_which", "_law_m"] (defScope s_reason) := ⟨rfl, rfl, rfl, by decide +kernel, rfl, by decide +kernel, by decide +kernel⟩
theorem ok_reason {M FE fI f f1 f2 : Addr} {fd fd1 fd2 : FuncData} (F : Fun K "_law_reason" "_law_reason" s_reason f fd) (RT : RefTxt P K mg FE fI) (G_dimension : FnAt P w K mg base (L2.CX P w) 15 "dimension" f1 fd1 ["m"] [] (spDim M C FE)) (G_coordinates : FnAt P w K mg base (L2.CX P w) 15 "coordinates" f2 fd2 ["m"] [] (spCoord M C FE)) :
    FnOk P w K mg base CX0 17 f fd ["_law_which", "_law_m"] (spReason M C) := by
  refine F.ok sc_reason (fun vs H Q E h => ?_) (fun cdv A outer s H vs Q E hr h => ?_)
  · obtain ⟨k, v, n, G, rfl, _⟩ := h
    rfl
  · obtain ⟨k, v, n, G, rfl, hM, qf, qg⟩ := h
    have hr1 : Room 15 _ := hr.mono (by decide)
    refine ⟨_, pss_cons (ps_try_as (i := 2) (tb := _) (ts := _) (Wout := fun _ _ _ _ => False) rfl rfl sc_reason.nd rfl rfl ⟨rfl, by decide, Or.inl RT.gC⟩ takes0
      (fun W pn xe tk _ => pss_one (ps_if (pt_cmpR op_eq (pv 0) pe_int (nomark _))
        (pss_one (ps_expr (pe_callS G_dimension.ok hr1 rfl G_dimension.mgf G_dimension.kp G_dimension.b (fun σ => passAt tk σ) (pa_cons (pv 1) pa_nil))))
        (pss_one (ps_expr (pe_callS G_coordinates.ok hr1 rfl G_coordinates.mgf G_coordinates.kp G_coordinates.b (fun σ => passAt tk σ) (pa_cons (pv 1) pa_nil))))))
      (fun a oe cls d pn hz hf => pss_one (ps_ret (pe_reason RT hz hf (pv 2)))))
      (pss_one (ps_ret pe_str)), ?_⟩
    refine ⟨_, rfl, rfl, _, rfl, bin2 (fun _ => ?_) fun _ => ?_⟩
    · refine ⟨_, rfl, v, n, G, rfl, hM, fun hf d H1 s1 hd => ?_, fun st H1 hg s1 => ?_⟩
      · exact ⟨true, RT.te, fun _ a0 ha0 => ⟨_, rfl, rfl, rfl, d, _, rfl, hd, qf hf H1 s1⟩, fun z => Bool.noConfusion z⟩
      · exact qg st H1 hg s1
    · refine ⟨_, rfl, v, n, G, rfl, hM, fun hf d H1 s1 hd => ?_, fun st u H1 hg s1 _ => ?_⟩
      · exact ⟨true, RT.te, fun _ a0 ha0 => ⟨_, rfl, rfl, rfl, d, _, rfl, hd, qf hf H1 s1⟩, fun z => Bool.noConfusion z⟩
      · exact qg st H1 hg s1
end
end KW
end

section
set_option Elab.async false
set_option linter.all false
set_option maxRecDepth 100000
set_option maxHeartbeats 4000000
set_option exponentiation.threshold 100000
namespace KW
open PySem PySem.Spec PyProof.Rows L2 K38
theorem RO.opNeT {X : Cx} {C : Addr} {k : Nat} (T : RO X.prog X.w X.K X.mg X.base C) (hr : Room k X.A) (hk : 8 ≤ k := by decide) : OpR X (compareOp .NotEq) (rNeG (DTup X.K (DTup X.K (DIns C (eqR C))))) := by
  obtain ⟨f, fd, hf, hi, hb, F⟩ := T.eq
  have m : Mon (DIns C (eqR C)) := mon_ins (fun a b H H' e ⟨q, h1, h2⟩ => ⟨q, h1.same e, h2.same e⟩)
  exact op_neTup (mon_tup m) (eqG_tup m (eqG_ins (E := E0) F hf hi hb pass0)) (hr.mono hk)
section
variable {P : Program} {w : World} {K : PySem.W.Frag} {mg : Str → Option Value} {base : Heap} {C : Addr}
theorem dtup_of {G G' : Mx} {n m : Nat} {v u : V} {H : Hp} (h1 : MQ C G n m v H) (h2 : MQ C G' n m u H) (e : ∀ i j, i < n → j < m → G i j = G' i j) : DTup K (DTup K (DIns C (eqR C))) v u H := by
  obtain ⟨p, vs, rfl, hp, lp, rp⟩ := h1.at
  obtain ⟨q, us, rfl, hq, lq, rq⟩ := h2.at
  refine ⟨p, q, vs, us, rfl, rfl, SqT.of hp, SqT.of hq, by rw [lp, lq], fun i x y ex ey => ?_⟩
  have hi : i < n := by rw [← lp]; exact (List.getElem?_eq_some_iff.mp ex).1
  obtain ⟨p1, v1, e1, hp1, l1, r1⟩ := rp i hi
  obtain ⟨q1, u1, e2, hq1, l2, r2⟩ := rq i hi
  rw [e1] at ex
  rw [e2] at ey
  cases ex
  cases ey
  refine ⟨p1, q1, v1, u1, rfl, rfl, SqT.of hp1, SqT.of hq1, by rw [l1, l2], fun j x y ex ey => ?_⟩
  have hj : j < m := by rw [← l1]; exact (List.getElem?_eq_some_iff.mp ex).1
  obtain ⟨v2, e3, ra⟩ := r1 j hj
  obtain ⟨u2, e4, rb⟩ := r2 j hj
  rw [e3] at ex
  rw [e4] at ey
  cases ex
  cases ey
  rw [← e i j hi hj] at rb
  have ra' := ra
  have rb' := rb
  obtain ⟨a, da, rfl, ha⟩ := ra
  obtain ⟨b, db, rfl, hb⟩ := rb
  exact ⟨a, b, da, db, _, _, rfl, rfl, ha, hb, _, ra', rb'⟩
theorem IsM.same {M : Addr} {n : Nat} {r : Mx} {v : V} {H H' : Hp} (h : IsM M C n r v H) (s : Same H H') : IsM M C n r v H' := h.nl (NL.of s)
theorem metG_of {M : Addr} {n : Nat} {D : Mi} {a b : Int} {v : V} {H : Hp} (hM : IsM M C (n + 1) (rOf D a b) v H) (n4 : n ≤ 4) (met : IsMet (n + 1) D) (a1 : 1 ≤ a) (a4 : a ≤ 4) (b1 : 1 ≤ b) (b3 : b ≤ 3) : MetG M C n (gOf n D a b) v H :=
  ⟨rOf D a b, hM, n4, (qmet_of met a1 a4 b1 b3).sz, fun i j hi hj => (gOf_in hi hj).symm, gOf_sy met, gOf_com met a1 a4 b1 b3⟩
/-- a table that no draw touches -/
def Keep (D : Mi) (n : Nat) (v : V) (st : Addr) (H : Hp) : Prop := ∀ H', SE st H H' → RowsE D n n v H'
theorem keep_T {D : Mi} {n : Nat} {v : V} {st : Addr} {H : Hp} (n1 : 1 ≤ n) (ok : StOk H st) (h : RowsT D n n v H) : Keep D n v st H := by
  intro H' s
  obtain ⟨p, vs, rfl, hp, ar⟩ := h
  have pst : p ≠ st := fun e => by
    obtain ⟨a1, b1, h1, _⟩ := ok
    rw [e, h1] at hp
    cases hp
    obtain ⟨_, _, z, _⟩ := ar.2 0 _ rfl
    cases z
  exact .inl ⟨p, vs, rfl, s.1 _ _ pst hp, ar.nl RT2.rnl (s.nl ok)⟩
theorem keep_L {D : Mi} {n : Nat} {p st : Addr} {ps : List Addr} {H : Hp} (hp : H p = some (.lst (ps.map V.ref))) (l : ps.length = n) (n1 : p ≠ st) (n2 : st ∉ ps) (row : ∀ i a, ps[i]? = some a → H a = some (.lst (rowI n (D i)))) : Keep D n (.ref p) st H := by
  intro H' s
  refine .inr ⟨p, ps.map V.ref, rfl, s.1 _ _ n1 hp, by rw [List.length_map]; exact l, fun i v e => ?_⟩
  rw [List.getElem?_map] at e
  obtain ⟨a, ea, rfl⟩ := Option.map_eq_some_iff.mp e
  have an : a ≠ st := fun z => n2 (by rw [← z]; exact List.mem_of_getElem? ea)
  exact ⟨a, _, rfl, s.1 _ _ an (row i a ea), rowI_arr⟩
theorem Keep.se {D : Mi} {n : Nat} {v : V} {st : Addr} {H H' : Hp} (h : Keep D n v st H) (s : SE st H H') : Keep D n v st H' := fun H2 s2 => h H2 (s.trans s2)
theorem RowsE.same {D : Mi} {n m : Nat} {v : V} {H H' : Hp} (s : Same H H') (h : RowsE D n m v H) : RowsE D n m v H' := h.elim (fun h => .inl (h.same s)) fun h => .inr (h.same s)
theorem inV_row {n : Nat} {f : Nat → Int} (h : inV (.int (-1)) (rowI n f) = false) {j : Nat} (hj : j < n) : f j ≠ -1 := fun e => by
  have : inV (.int (-1)) (rowI n f) = true := by
    unfold inV
    refine List.any_eq_true.mpr ⟨.int (f j), List.mem_of_getElem? (rowI_get hj), ?_⟩
    rw [e]
    rfl
  rw [h] at this
  cases this
theorem flat_row {n : Nat} {f : Nat → Int} : (rowI n f).all flatV = true := by
  refine List.all_eq_true.mpr fun x hx => ?_
  obtain ⟨j, _, rfl⟩ := List.mem_map.mp hx
  rfl
theorem IsCo.same {n : Nat} {st : List Stp} {v : V} {H H' : Hp} (s : Same H H') (h : IsCo C n st v H) : IsCo C n st v H' := by
  obtain ⟨p, vb, vs, e, hp, a, b⟩ := h
  exact ⟨p, vb, vs, e, s _ _ hp, a.same s, b.same RQ.rnl.rs s⟩
theorem MetG.same {M : Addr} {n : Nat} {G : Mx} {v : V} {H H' : Hp} (s : Same H H') (h : MetG M C n G v H) : MetG M C n G v H' := by
  obtain ⟨r, a, b⟩ := h
  exact ⟨r, a.same s, b⟩
/-- the place's determinant is below 0 -/
def lowP (n : Nat) (D : Mi) (i : Nat) : Bool := decide (detF ((parts n).getD i []).length (sub (Tw D) ((parts n).getD i [])) < 0)
theorem low_pos {n : Nat} {D : Mi} (h : ∃ S ∈ parts n, detF S.length (sub (Tw D) S) < 0) : 0 < ((List.range (parts n).length).filter (lowP n D)).length := by
  obtain ⟨S, m, neg⟩ := h
  obtain ⟨i, hi, e⟩ := List.mem_iff_getElem.mp m
  refine List.length_pos_of_mem (a := i) (List.mem_filter.mpr ⟨List.mem_range.mpr hi, ?_⟩)
  have e2 : (parts n).getD i [] = S := by simp only [List.getD, List.getElem?_eq_getElem hi, e]; rfl
  unfold lowP
  rw [e2]
  exact decide_eq_true neg
theorem low_zero {n : Nat} {D : Mi} (h : ∀ S ∈ parts n, 0 ≤ detF S.length (sub (Tw D) S)) : ((List.range (parts n).length).filter (lowP n D)).length = 0 := by
  rw [List.filter_eq_nil_iff.mpr]
  · rfl
  · intro i hi
    have hi := List.mem_range.mp hi
    have e2 : (parts n).getD i [] = (parts n)[i] := by simp only [List.getD, List.getElem?_eq_getElem hi]; rfl
    have q := h _ (List.getElem_mem hi)
    unfold lowP
    rw [e2, decide_eq_false (by omega)]
    simp
/-- what stands once the rows are chosen -/
def J1 (a st : Addr) : L2.St → Hp → Prop := fun σ H => ∃ (vr : V) (b : Bool) (fnd : Option V) (n : Nat) (D : Mi), σ = [some (.ref a), some (.ref st), some vr, some (.bl b), fnd, none, none, none, none, none, none, none, none, none] ∧ StOk H st ∧ n ≤ 4 ∧ IsMet (n + 1) D ∧ Keep D (n + 1) vr st H ∧
  (b = true → ∃ L : List Pt, L.length = n + 1 ∧ ∀ i j, i < L.length → j < L.length → 0 ≤ D i j ∧ D i j * D i j = d2 (pAt L i) (pAt L j))
theorem gN {i : Nat} {x : V} {σ : L2.St} {H : Hp} {Q : L2.St → Hp → Prop} (h : Q (σ.set i (some x)) H) : gName i x σ H Q := h
theorem join_if {c : TT} {t u v : TS} {D : Ends} {σ : L2.St} {H : Hp} {J : L2.St → Hp → Prop} (h : ∀ R, (∀ σ H, J σ H → R σ H) → tIfS c t u { D with nx := R } σ H) (hr : ∀ σ H, J σ H → v D σ H) : tSeq (tIfS c t u) v D σ H := h (v D) hr
abbrev s_law : Stmt := top 54
abbrev N_law : List Str := ["_law_script", "_law_state_here", "_law_rows_here", "_law_plain", "_law_found", "_law_factor_here", "_law_m", "_law_twice", "_law_low", "_law_told", "_law_part", "_law_row", "_law_i", "_law_j"]
theorem sc_law : FnScope N_law ["_law_script"] (defScope s_law) := ⟨rfl, rfl, rfl, by decide +kernel, rfl, by decide +kernel, by decide +kernel⟩
theorem ok_law {M fM f f1 f2 f3 f4 f5 f6 f7 f8 f9 f10 f11 f12 f13 f14 f15 f16 f17 f18 : Addr} {fd fdM d1 d2' d3 d4 d5 d6 d7 d8 d9 d10 d11 d12 d13 d14 d15 d16 d17 d18 : FuncData} {FE : Addr} (F : Fun K "law" "law" s_law f fd) (T : RO P w K mg base C) (B : NM mg)
    (G_state : FnAt P w K mg base CX0 2 "_law_state" f1 d1 ["_law_script"] [] (spState K)) (G_rows : FnAt P w K mg base CX0 8 "_law_rows" f2 d2' ["_law_state_here", "_law_most"] [] spRows)
    (G_take : FnAt P w K mg base CX0 2 "_law_take" f3 d3 ["_law_state_here", "_law_m"] [] spTake) (G_distances : FnAt P w K mg base CX0 4 "_law_distances" f4 d4 ["_law_points"] [] spDistN)
    (G_told_points : FnAt P w K mg base CX0 6 "_law_told_points" f5 d5 ["_law_state_here"] [] spTold) (G_factor : FnAt P w K mg base CX0 4 "_law_factor" f6 d6 ["_law_state_here"] [] spFactor)
    (mk : Mk K M fM) (okM : FnOk P w K mg base CX0 12 fM fdM ["self", "rows"] (spMInit M C)) (mgM : mg "Metric" = some (.ref M)) (bM : Binds K fdM ["self", "rows"] [])
    (G_ratios : FnAt P w K mg base CX0 5 "_law_ratios" f7 d7 ["_law_rows_here", "_law_factor_here"] [] (spRatios C)) (G_twice_gram : FnAt P w K mg base CX0 2 "_law_twice_gram" f8 d8 ["_law_rows_here"] [] spTwice)
    (G_gram : FnAt P w K mg base CX0 9 "gram" f9 d9 ["m"] [] (spGram M C)) (G_parts : FnAt P w K mg base CX0 2 "_law_parts" f10 d10 ["_law_n"] [] spParts)
    (G_determinant : FnAt P w K mg base CX0 10 "_law_determinant" f11 d11 ["_law_rows_here"] [] (spDet 4)) (G_is : FnAt P w K mg base CX0 2 "_law_is" f12 d12 ["_law_told", "_law_due"] [] spIs)
    (G_is_euclidean : FnAt P w K mg base CX0 13 "is_euclidean" f13 d13 ["m"] [] (spEuc M C)) (G_reason : FnAt P w K mg base CX0 17 "_law_reason" f14 d14 ["_law_which", "_law_m"] [] (spReason M C))
    (G_coordinates : FnAt P w K mg base (L2.CX P w) 15 "coordinates" f15 d15 ["m"] [] (spCoord M C FE)) (G_coordinates_hold : FnAt P w K mg base CX0 10 "_law_coordinates_hold" f16 d16 ["_law_m", "_law_told"] [] (spHold M C))
    (G_dimension : FnAt P w K mg base (L2.CX P w) 15 "dimension" f17 d17 ["m"] [] (spDim M C FE)) (G_rank : FnAt P w K mg base CX0 11 "_law_rank" f18 d18 ["_law_rows_here"] [] spRank) :
    FnOk P w K mg base CX0 19 f fd ["_law_script"] (spLaw K) := by
  refine F.ok sc_law (fun vs H Q E h => ?_) (fun cdv A outer s H vs Q E hr h => ?_)
  · obtain ⟨a, ns, rfl, _⟩ := h
    rfl
  · obtain ⟨a, ns, rfl, hS, q⟩ := h
    refine ⟨_, (pss_cons (ps_set (i := 1) sc_law.nd rfl (Or.inl rfl) (pe_call G_state.ok (hr.mono (by decide)) rfl G_state.mgf G_state.kp G_state.b .nil pass0 (pa_cons (pv 0) pa_nil)))
  (pss_cons (ps_set (i := 2) sc_law.nd rfl (Or.inl rfl) (pe_call G_rows.ok (hr.mono (by decide)) rfl G_rows.mgf G_rows.kp G_rows.b .nil pass0 (pa_cons (pv 1) (pa_cons pe_int pa_nil))))
  (pss_cons (ps_set (i := 3) sc_law.nd rfl (Or.inl rfl) (pe_cmpR op_eq (pe_call G_take.ok (hr.mono (by decide)) rfl G_take.mgf G_take.kp G_take.b .nil pass0 (pa_cons (pv 1) (pa_cons pe_int pa_nil))) pe_int (nomark _)))
  (pss_cons (ps_if (pt_val (pv 3)) (pss_cons (ps_set (i := 4) sc_law.nd rfl (Or.inl rfl) (pe_call G_distances.ok (hr.mono (by decide)) rfl G_distances.mgf G_distances.kp G_distances.b .nil pass0 (pa_cons (pe_call G_told_points.ok (hr.mono (by decide)) rfl G_told_points.mgf G_told_points.kp G_told_points.b .nil pass0 (pa_cons (pv 1) pa_nil)) pa_nil)))
  (pss_one (ps_if (pt_cmpR op_eq (pe_callB call_len_seq (by rfl) B.len (by decide +kernel) (pa_cons (lcG (pe_lc (own := [("_law_row", 11)]) (g := gName 11) rfl sc_law.nd (pi_list (pv 4)) (blkOk_by (own := [("_law_row", 11)]) (N := N_law) (sc := defScope s_law) (by decide +kernel)) (fun _ _ _ _ _ => (pg_name (i := 11) sc_law.nd rfl (Or.inl rfl))) (fun _ _ _ _ _ => (pts_one (pt_cmpR (op_inK K rfl) (pe_un un_neg pe_int) (pv 11) (by rfl)))) (fun _ _ _ _ _ => (pv 11)))) pa_nil)) pe_int (nomark _)) (pss_one (ps_set (i := 2) sc_law.nd rfl (Or.inl rfl) (pv 4))) (pss_one (ps_set (i := 3) sc_law.nd rfl (Or.inl rfl) pe_bl))))) pss_nil)
  (pss_cons (ps_set (i := 5) sc_law.nd rfl (Or.inl rfl) (pe_call G_factor.ok (hr.mono (by decide)) rfl G_factor.mgf G_factor.kp G_factor.b .nil pass0 (pa_cons (pv 1) pa_nil)))
  (pss_cons (ps_set (i := 6) sc_law.nd rfl (Or.inl rfl) (pe_make mk okM (hr.mono (by decide)) rfl mgM bM .nil pass0 (pa_cons (pe_call G_ratios.ok (hr.mono (by decide)) rfl G_ratios.mgf G_ratios.kp G_ratios.b .nil pass0 (pa_cons (pv 2) (pa_cons (pv 5) pa_nil))) pa_nil)))
  (pss_cons (ps_set (i := 7) sc_law.nd rfl (Or.inr rfl) (pe_call G_twice_gram.ok (hr.mono (by decide)) rfl G_twice_gram.mgf G_twice_gram.kp G_twice_gram.b .nil pass0 (pa_cons (pv 2) pa_nil)))
  (pss_cons (ps_if (pt_cmpR (T.opNeT hr) (pe_call G_gram.ok (hr.mono (by decide)) rfl G_gram.mgf G_gram.kp G_gram.b .nil pass0 (pa_cons (pv 6) pa_nil)) (pe_call G_ratios.ok (hr.mono (by decide)) rfl G_ratios.mgf G_ratios.kp G_ratios.b .nil pass0 (pa_cons (pv 7) (pa_cons (pe_tup (pa_cons (pe_op op_pow (pe_ix ix_tup (pv 5) pe_int (fun _ _ => rfl)) pe_int) (pa_cons (pe_op op_mul pe_int (pe_op op_pow (pe_ix ix_tup (pv 5) pe_int (fun _ _ => rfl)) pe_int)) pa_nil))) pa_nil))) (nomark _)) (pss_one (ps_ret pe_bl)) pss_nil)
  (pss_cons (slcG (ps_setLc (i := 8) (own := [("_law_part", 10)]) (g := gName 10) rfl sc_law.nd rfl rfl (sw_true rfl rfl rfl (by decide +kernel)) (pi_list (pe_call G_parts.ok (hr.mono (by decide)) rfl G_parts.mgf G_parts.kp G_parts.b .nil pass0 (pa_cons (pe_callB call_len_seq (by rfl) B.len (by decide +kernel) (pa_cons (pv 7) pa_nil)) pa_nil))) (blkOk_by (own := [("_law_part", 10)]) (N := N_law) (sc := defScope s_law) (by decide +kernel)) (fun _ _ _ _ _ => (pg_name (i := 10) sc_law.nd rfl (Or.inr rfl))) (fun _ _ _ _ _ => (pts_one (pt_cmpR op_lt (pe_call G_determinant.ok (hr.mono (by decide)) rfl G_determinant.mgf G_determinant.kp G_determinant.b .nil pass0 (pa_cons (lcG (pe_lc (own := [("_law_i", 12)]) (g := gName 12) rfl sc_law.nd (pi_tupK K rfl (pv 10)) (blk_in (own := [("_law_i", 12)]) (N := N_law) (sc0 := defScope s_law) rfl (by decide +kernel)) (fun _ _ _ _ _ => (pg_name (i := 12) sc_law.nd rfl (Or.inr rfl))) (fun _ _ _ _ _ => pts_nil) (fun _ _ _ _ _ => (lcG (pe_lc (own := [("_law_j", 13)]) (g := gName 13) rfl sc_law.nd (pi_tupK K rfl (pv 10)) (blk_in2 (own := [("_law_j", 13)]) (N := N_law) (sc0 := defScope s_law) rfl (by decide +kernel)) (fun _ _ _ _ _ => (pg_name (i := 13) sc_law.nd rfl (Or.inl rfl))) (fun _ _ _ _ _ => pts_nil) (fun _ _ _ _ _ => (pe_ix (ix_listK K rfl) (pe_ix (ix_listK K rfl) (pv 7) (pv 12) (fun _ _ => rfl)) (pv 13) (fun _ _ => rfl)))))))) pa_nil)) pe_int (nomark _)))) (fun _ _ _ _ _ => (pv 10))))
  (pss_cons (ps_if (PW.pt (pw_or (pt_not (pt_val (pe_call G_is.ok (hr.mono (by decide)) rfl G_is.mgf G_is.kp G_is.b .nil pass0 (pa_cons (pe_call G_is_euclidean.ok (hr.mono (by decide)) rfl G_is_euclidean.mgf G_is_euclidean.kp G_is_euclidean.b .nil pass0 (pa_cons (pv 6) pa_nil)) (pa_cons (pe_cmpR op_eq (pe_callB call_len_seq (by rfl) B.len (by decide +kernel) (pa_cons (pv 8) pa_nil)) pe_int (nomark _)) pa_nil))))) (pw_or1 (PW.pt (pw_and (pt_val (pv 3)) (pw_and1 (pt_cmpR op_gt (pe_callB call_len_seq (by rfl) B.len (by decide +kernel) (pa_cons (pv 8) pa_nil)) pe_int (nomark _)))))))) (pss_one (ps_ret pe_bl)) pss_nil)
  (pss_cons (ps_if (pt_cmpR op_gt (pe_callB call_len_seq (by rfl) B.len (by decide +kernel) (pa_cons (pv 8) pa_nil)) pe_int (nomark _)) (pss_one (ps_ret (pe_and (pe_cmpR op_eq (pe_call G_reason.ok (hr.mono (by decide)) rfl G_reason.mgf G_reason.kp G_reason.b .nil pass0 (pa_cons pe_int (pa_cons (pv 6) pa_nil))) pe_str (nomark _)) (pe_one (pe_cmpR op_eq (pe_call G_reason.ok (hr.mono (by decide)) rfl G_reason.mgf G_reason.kp G_reason.b .nil pass0 (pa_cons pe_int (pa_cons (pv 6) pa_nil))) pe_str (nomark _)))))) pss_nil)
  (pss_cons (ps_set (i := 9) sc_law.nd rfl (Or.inl rfl) (pe_call G_coordinates.ok (hr.mono (by decide)) rfl G_coordinates.mgf G_coordinates.kp G_coordinates.b .nil passF (pa_cons (pv 6) pa_nil)))
  (pss_one (ps_ret (pe_and (pe_cmpR op_eq (pe_call G_dimension.ok (hr.mono (by decide)) rfl G_dimension.mgf G_dimension.kp G_dimension.b .nil passF (pa_cons (pv 6) pa_nil)) (pe_call G_rank.ok (hr.mono (by decide)) rfl G_rank.mgf G_rank.kp G_rank.b .nil pass0 (pa_cons (pv 7) pa_nil)) (nomark _)) (pe_and (pe_cmpR op_eq (pe_callB call_len_seq (by rfl) B.len (by decide +kernel) (pa_cons (pe_ix ix_tup (pv 9) pe_int (fun _ _ => rfl)) pa_nil)) (pe_call G_dimension.ok (hr.mono (by decide)) rfl G_dimension.mgf G_dimension.kp G_dimension.b .nil passF (pa_cons (pv 6) pa_nil)) (nomark _)) (pe_one (pe_call G_coordinates_hold.ok (hr.mono (by decide)) rfl G_coordinates_hold.mgf G_coordinates_hold.kp G_coordinates_hold.b .nil pass0 (pa_cons (pv 6) (pa_cons (pv 9) pa_nil)))))))))))))))))))), ?_⟩
    refine ⟨_, rfl, a, ns, rfl, hS, fun st H1 s1 o1 => ?_⟩
    refine ⟨_, rfl, st, rfl, o1, fun n n1 n5 D vr H2 s2 met hD => ?_⟩
    refine ⟨_, rfl, st, 2, rfl, s2.2, by decide, by decide, fun pl H3 p0 p1 s3 => ⟨rfl, ?_⟩⟩
    obtain ⟨m, rfl⟩ : ∃ m, n = m + 1 := ⟨n - 1, by omega⟩
    have m4 : m ≤ 4 := by omega
    have kp := (keep_T n1 s2.2 hD).se s3
    refine gN ?_
    dsimp only
    refine join_if (J := J1 a st) (fun R jn => ?_) ?_
    · refine ⟨_, rfl, _, rfl, bin2 (fun e => ?_) fun e => ?_⟩
      · refine ⟨_, rfl, st, rfl, s3.2, fun L vp H4 s4 ok hL => ?_⟩
        refine ⟨vp, L, rfl, hL, ok, fun Dm p ps H5 s5 hd f0 h5 l5 fr row => ?_⟩
        have o4 := s4.2
        have st4 : H4 st ≠ none := fun z => by
          obtain ⟨x, y, h2, _⟩ := o4
          rw [h2] at z
          cases z
        have src := src_list (K := K) (H1 := H5) (a := p) (SqL.of h5)
        rw [List.length_map, l5] at src
        refine ⟨_, rfl, p, rfl, ⟨_, SqL.of h5⟩, ?_⟩
        refine lcF src (by have := ok.2.1; omega) (fun i => inV (.int (-1)) (rowI L.length (Dm i))) (by exact fun _ => rfl) ?_ ?_ ?_
        · intro i Hi hi si Qb hq
          have hi' : i < ps.length := by omega
          have eg : (ps.map V.ref).getD i .non = .ref ps[i] := by simp only [List.getD, List.getElem?_map, List.getElem?_eq_getElem hi']; rfl
          exact ⟨1, rfl, _, rfl, ps[i], _, eg, .inl (SqL.of (si _ _ (row i _ (List.getElem?_eq_getElem hi')))), rfl, flat_row, _, rfl, hq Hi (Same.refl _)⟩
        · intro i Hi hi si Qk hq
          exact ⟨_, rfl, hq⟩
        · intro D1 H6 s6 hD0 hD1
          refine ⟨D1, _, rfl, .inl (SqL.of hD1), rfl, _, rfl, bin2 (fun e2 => ?_) fun e2 => ?_⟩
          · obtain ⟨k, hk⟩ : ∃ k, L.length = k + 1 := ⟨L.length - 1, by have := ok.1; omega⟩
            have hall : ∀ i j, i < L.length → j < L.length → 0 ≤ Dm i j ∧ Dm i j * Dm i j = d2 (pAt L i) (pAt L j) := fun i j hi hj => by
              rcases hd i j hi hj with h | h
              · exact h
              · exfalso
                have e3 : ((List.range L.length).filter fun i => inV (.int (-1)) (rowI L.length (Dm i))).length = 0 := by
                  rw [List.length_map] at e2
                  injection e2 with e2
                  omega
                have e4 := List.filter_eq_nil_iff.mp (List.eq_nil_of_length_eq_zero e3) i (List.mem_range.mpr hi)
                exact inV_row (by simpa using e4) hj h
            have kL := keep_L (D := Dm) (n := L.length) (st := st) h5 l5 (fun z => st4 (by rw [← z]; exact f0)) (fun z => st4 (fr _ z)) row
            have met2 := met_pts ok hall
            rw [hk] at kL met2
            exact ⟨_, rfl, jn _ _ ⟨_, _, _, k, Dm, rfl, (SE.of o4 (s5.trans s6)).2, by have := ok.2.1; omega, met2, kL.se (SE.of (SE.of o4 s5).2 s6), fun _ => ⟨L, hk, hall⟩⟩⟩
          · exact jn _ _ ⟨_, false, _, m, D, rfl, (SE.of o4 (s5.trans s6)).2, m4, met, kp.se (s4.same (s5.trans s6)), fun z => Bool.noConfusion z⟩
      · exact jn _ _ ⟨_, _, _, m, D, rfl, s3.2, m4, met, kp, fun z => absurd (of_decide_eq_true z) e⟩
    · rintro σ H4 ⟨vr, b, fnd, n, D, rfl, o4, n4, met, kp, hp⟩
      refine ⟨_, rfl, st, rfl, o4, fun pf f0 f1 H5 s5 a1 a4 b1 b3 hpf => ?_⟩
      have rw5 : RowsE D (n + 1) (n + 1) vr H5 := kp H5 s5
      have bd40 : ∀ i j, i < n + 1 → j < n + 1 → (D i j).natAbs < 2 ^ 20 := fun i j hi hj => by
        have := d_nn met hi hj
        exact Nat.lt_of_le_of_lt (show (D i j).natAbs ≤ 10000 by omega) (by decide)
      have tb40 : ∀ i j, i < n → j < n → (Tw D i j).natAbs < 2 ^ 40 := fun i j hi hj => Nat.lt_of_le_of_lt (tw_b met hi hj) (by decide)
      have qm := qmet_of met a1 a4 b1 b3
      refine ⟨_, rfl, _, rfl, vr, pf, D, n + 1, f0, f1, rfl, rw5, by omega, hpf, by omega, by omega, by omega, by omega, fun i j hi hj => Nat.lt_trans (bd40 i j hi hj) (by decide), fun vq H6 s6 hq6 => ?_⟩
      intro x dx hx hdx hne
      have snew : Same H6 (L2.upd (L2.upd H6 dx (.own x)) x (.ins M dx [])) := (Same.upd hdx).trans (Same.upd (by rw [upd_ne hne.symm]; exact hx))
      refine ⟨x, dx, vq, n + 1, rOf D f0 f1, rfl, upd_same, MQ.same snew hq6, by omega, by omega, qm, fun H7 sx hIs => ⟨rfl, ?_⟩⟩
      have s7 : Same H6 H7 := fun c o e => sx c o (ne_of_none e hx) (snew c o e)
      refine ⟨_, rfl, vr, n, D, rfl, rw5.same (s6.trans s7), by omega, bd40, fun vt H8 s8 hT => ?_⟩
      have hpf8 := (s6.trans (s7.trans s8)) _ _ hpf
      have hIs8 := hIs.same s8
      have mg8 := metG_of hIs8 n4 met a1 a4 b1 b3
      have hT' := hT
      obtain ⟨pT, vT, rfl, hpT, lT, rowT⟩ := hT.row
      have pw0 : (0 : Int) ≤ 2 ∧ (2 : Int) ≤ 1000000 ∧ f0.natAbs < 2 ^ 64 := ⟨by decide, by decide, Nat.lt_of_le_of_lt (show f0.natAbs ≤ 4 by omega) (by decide)⟩
      have pw1 : (0 : Int) ≤ 2 ∧ (2 : Int) ≤ 1000000 ∧ f1.natAbs < 2 ^ 64 := ⟨by decide, by decide, Nat.lt_of_le_of_lt (show f1.natAbs ≤ 4 by omega) (by decide)⟩
      have q0 : 0 ≤ f0 ^ 2 ∧ f0 ^ 2 ≤ 16 := by
        rw [p2sq]
        exact ⟨i_nn _, Int.mul_le_mul a4 a4 (by omega) (by decide)⟩
      have q1 : 0 < f1 ^ 2 ∧ f1 ^ 2 ≤ 9 := by
        rw [p2sq]
        exact ⟨Int.mul_pos (by omega) (by omega), Int.mul_le_mul b3 b3 (by omega) (by decide)⟩
      refine ⟨_, rfl, .ref x, n, rOf D f0 f1, rfl, hIs8, by omega, qm.sz, fun vg H9 s9 hG => ?_⟩
      refine ⟨_, rfl, _, rfl, pf, _, _, _, rfl, rfl, SqT.of (s9 _ _ hpf8), (by exact rfl), _, _, rfl, rfl, pw0, ?_⟩
      refine ⟨_, rfl, pf, _, _, _, rfl, rfl, SqT.of (s9 _ _ hpf8), (by exact rfl), _, _, rfl, rfl, pw1, _, _, rfl, rfl, .inl ⟨by decide, by decide⟩, ?_⟩
      refine ⟨(by show 2 ≤ sizeLine; decide), fun t ht => ?_⟩
      have s10 := s9.trans (Same.upd (o := .tup [.int (f0 ^ 2), .int (2 * f1 ^ 2)]) ht)
      refine ⟨_, t, Tw D, n, f0 ^ 2, 2 * f1 ^ 2, rfl, .inr (hT'.same s10), by omega, upd_same, by omega, by omega, by omega, by omega, tb40, fun v2 H11 s11 hQ2 => ?_⟩
      have s8x := s10.trans s11
      refine ⟨dtup_of (MQ.same ((Same.upd ht).trans s11) hG) hQ2 (fun i j hi hj => (r_told D (by omega) i j).symm), fun H12 s12 => ⟨_, rfl, iteF ?_⟩⟩
      have s812 : Same H8 H12 := s8x.trans s12
      have hpT12 := s812 _ _ hpT
      refine ⟨_, rfl, pT, _, rfl, .inl (SqL.of hpT12), n, by rw [lT]; rfl, n4, fun vp H13 s13 hP => ?_⟩
      obtain ⟨lp, us, rfl, hlp, arP⟩ := hP
      have src := src_list (K := K) (H1 := H13) (a := lp) (SqL.of hlp)
      rw [arP.1] at src
      refine ⟨lp, rfl, ⟨_, SqL.of hlp⟩, ?_⟩
      have s813 := s812.trans s13
      refine lcF src (by have := parts_16 n4; omega) (lowP n D) (by exact fun _ => rfl) ?_ ?_ ?_
      · intro i Hi hi si Qb hqb
        obtain ⟨S, eS, t2, ws, et, ht2, arS⟩ := RP.rnl i _ _ Hi (NL.of si) (arP.item hi).2
        have ew := arr_rowI arS
        subst ew
        have pS := parts_ok n S (List.mem_of_getElem? eS)
        have hpi : Hi pT = some (.lst vT) := si _ _ (s813 _ _ hpT)
        have src2 : ∀ Hk, Same Hi Hk → Src (Itt K t2) S.length (fun i => (rowI S.length fun j => ((S.getD j 0 : Nat) : Int)).getD i .non) Hk := fun Hk sk => by
          have s := src_tup (K := K) (H1 := Hk) (a := t2) (SqT.of (sk _ _ ht2))
          rw [rowI_len] at s
          exact s
        have it : ∀ j, j < S.length → (rowI S.length fun j => ((S.getD j 0 : Nat) : Int)).getD j .non = .int ((S.getD j 0 : Nat) : Int) := fun j hj => by
          simp only [List.getD, rowI_get hj]
          rfl
        have inS : ∀ j, j < S.length → S.getD j 0 < n := fun j hj => by
          refine pS.2 _ ?_
          simp only [List.getD, List.getElem?_eq_getElem hj]
          exact List.getElem_mem hj
        refine ⟨_, rfl, t2, et, ⟨_, SqT.of ht2⟩, ?_⟩
        refine lcL (src2 Hi (Same.refl _)) (by omega) (R := fun a => RI (sub (Tw D) S a)) (m := fun _ => S.length) (fun a => RI.rnl) (by exact fun _ => rfl) ?_ ?_
        · intro c Hc hc sc Qk hq
          refine ⟨_, rfl, t2, et, ⟨_, SqT.of (sc _ _ ht2)⟩, ?_⟩
          refine lcN (src2 Hc sc) (by omega) (R := RI (sub (Tw D) S c)) RI.rnl (by exact fun _ => rfl) ?_ ?_
          · intro e He he se Qk2 hq2
            obtain ⟨r1, er1, hr1⟩ := rowT (S.getD c 0) (inS c hc)
            have sx := sc.trans se
            refine ⟨_, rfl, _, rfl, pT, vT, _, _, rfl, it c hc, SqL.of (sx _ _ hpi), atI_nat er1, _, rfl, r1, _, _, _, rfl, it e he, SqL.of (sx _ _ (si _ _ (s813 _ _ hr1))), row_at (inS e he), ?_⟩
            exact hq2 _ _ (Same.refl _) rfl
          · intro D1 Hx ys s3 hD0 hD1 ar2
            exact hq D1 ys Hx s3 hD0 hD1 ar2
        · intro D1 Hx ps s3 hD0 hD1 hl1 _ _ nl
          refine ⟨.ref D1, S.length, sub (Tw D) S, rfl, ?_, by omega, fun a c ha hc => tb40 _ _ (inS a ha) (inS c hc), fun Hy s4 => ⟨_, _, rfl, rfl, _, rfl, ?_⟩⟩
          · refine ⟨D1, ps.map V.ref, rfl, hD1, by rw [List.length_map]; exact hl1, fun i v e => ?_⟩
            rw [List.getElem?_map] at e
            obtain ⟨a, ea, rfl⟩ := Option.map_eq_some_iff.mp e
            obtain ⟨us, h1, h2⟩ := nl.2 i a ea
            exact ⟨a, us, rfl, h1, h2⟩
          · have e2 : (parts n).getD i [] = S := by simp only [List.getD, eS]; rfl
            have r := hqb Hy (s3.trans s4)
            unfold lowP at r
            rw [e2] at r
            exact r
      · intro i Hi hi si Qk hq
        exact ⟨_, rfl, hq⟩
      · intro DL H14 s14 hL0 hL1
        refine gN ?_
        dsimp only
        have pos : (∃ S ∈ parts n, detF S.length (sub (Tw D) S) < 0) → 0 < (((List.range (parts n).length).filter (lowP n D)).map (fun i => us.getD i .non)).length := fun h => by
          rw [List.length_map]
          exact low_pos h
        have zer : (∀ S ∈ parts n, 0 ≤ detF S.length (sub (Tw D) S)) → (((List.range (parts n).length).filter (lowP n D)).map (fun i => us.getD i .non)).length = 0 := fun h => by
          rw [List.length_map]
          exact low_zero h
        generalize ((List.range (parts n).length).filter (lowP n D)).map (fun i => us.getD i .non) = LOW at *
        have fl : Fails n (gOf n D f0 f1) → 0 < LOW.length := fun h => pos (fails_low n4 (by omega) (by omega) h)
        have gl : ∀ st, Good n (gOf n D f0 f1) st → LOW.length = 0 := fun st h => zer (good_low n4 (by omega) (by omega) h).1
        have pl0 : b = true → LOW.length = 0 := fun e => by
          obtain ⟨L, hL, hd⟩ := hp e
          exact zer fun S hS => pts_nn hL n4 hd hS
        have s814 : Same H8 H14 := s813.trans s14
        refine join_if (J := fun σ H => σ = [some (.ref a), some (.ref st), some vr, some (.bl b), fnd, some (.ref pf), some (.ref x), some (.ref pT), some (.ref DL), none, none, none, none, none] ∧ Same H14 H) (fun R jn => ?_) ?_
        · refine ⟨_, rfl, .ref x, n, gOf n D f0 f1, rfl, mg8.same s814, fun hf H15 s15 => ?_, fun st0 H15 hg s15 => ?_⟩
          · have l := fl hf
            have e0 : decide (V.int (LOW.length : Int) = V.int 0) = false := decide_eq_false fun z => by
              injection z with z
              omega
            refine ⟨_, rfl, DL, _, rfl, .inl (SqL.of (s15 _ _ hL1)), rfl, false, _, rfl, _, rfl, ?_⟩
            rw [e0]
            refine iteF ⟨_, rfl, _, rfl, ?_⟩
            cases b with
            | true => exact absurd (pl0 rfl) (by omega)
            | false => exact iteF (iteF (jn _ _ ⟨rfl, s15⟩))
          · have l := gl st0 hg
            have e0 : decide (V.int (LOW.length : Int) = V.int 0) = true := decide_eq_true (by rw [l]; rfl)
            refine ⟨_, rfl, DL, _, rfl, .inl (SqL.of (s15 _ _ hL1)), rfl, true, _, rfl, _, rfl, ?_⟩
            rw [e0]
            refine iteF ⟨_, rfl, _, rfl, ?_⟩
            cases b with
            | true => exact iteT ⟨_, rfl, DL, _, rfl, .inl (SqL.of (s15 _ _ hL1)), _, _, rfl, rfl, _, rfl, decF (by rw [l]; decide) (jn _ _ ⟨rfl, s15⟩)⟩
            | false => exact iteF (iteF (jn _ _ ⟨rfl, s15⟩))
        · rintro σ H15 ⟨rfl, s15⟩
          have hL15 := s15 _ _ hL1
          have s815 := s814.trans s15
          refine ⟨_, rfl, DL, _, rfl, .inl (SqL.of hL15), _, _, rfl, rfl, _, rfl, bin2 (fun hlow => ?_) fun hlow => ?_⟩
          · have ng : ∀ st, ¬ Good n (gOf n D f0 f1) st := fun st hg => by
              have := gl st hg
              rw [this] at hlow
              exact absurd hlow (by decide)
            refine ⟨_, rfl, 0, .ref x, n, gOf n D f0 f1, rfl, mg8.same s815, fun hf H16 s16 => ⟨rfl, _, rfl, decT rfl ?_⟩, fun st _ hg _ => absurd hg (ng st)⟩
            refine ⟨_, rfl, 1, .ref x, n, gOf n D f0 f1, rfl, mg8.same (s815.trans s16), fun hf H17 s17 => ⟨rfl, ?_⟩, fun st _ hg _ => absurd hg (ng st)⟩
            rw [decide_eq_true rfl]
            exact q H17
          · have nf : ¬ Fails n (gOf n D f0 f1) := fun hf => by
              have := fl hf
              exact hlow (by omega)
            refine ⟨_, rfl, .ref x, n, gOf n D f0 f1, rfl, mg8.same s815, fun hf => absurd hf nf, fun st1 u H16 hg s16 hco => ?_⟩
            have s816 := s815.trans s16
            have hco' := hco
            obtain ⟨pu, vb, vs, rfl, hpu, mb, p2, cs, rfl, hp2, arc⟩ := hco
            have g1 := good_low n4 (by omega) (by omega) hg
            refine ⟨_, rfl, .ref x, n, gOf n D f0 f1, rfl, mg8.same s816, fun hf => absurd hf nf, fun st2 H17 hg2 s17 => ?_⟩
            have g2 := good_low n4 (by omega) (by omega) hg2
            refine ⟨_, rfl, .ref pT, n, Tw D, rfl, hT'.same (s816.trans s17), n4, tb40, fun r H18 s18 u1 u2 => ⟨rfl, _, rfl, decT ?_ ?_⟩⟩
            · rw [rank_eq g2.2.1 g2.2.2 u1 u2]
            · have s1618 := s17.trans s18
              refine ⟨_, rfl, pu, _, _, _, rfl, rfl, SqT.of (s1618 _ _ hpu), (by exact rfl), p2, _, rfl, .inr (SqT.of (s1618 _ _ hp2)), ?_⟩
              refine ⟨_, rfl, .ref x, n, gOf n D f0 f1, rfl, mg8.same (s816.trans s1618), fun hf => absurd hf nf, fun st3 H19 hg3 s19 => ⟨rfl, _, rfl, decT ?_ ?_⟩⟩
              · have g3 := good_low n4 (by omega) (by omega) hg3
                rw [arc.1, rank_eq g1.2.1 g1.2.2 g3.2.1 g3.2.2]
              · have s1619 := s1618.trans s19
                exact ⟨_, rfl, _, rfl, .ref x, .ref pu, n, gOf n D f0 f1, rOf D f0 f1, st1, rfl, hIs8.same (s816.trans s1619), n4, qm.sz, qm, fun i j hi hj => (gOf_in hi hj).symm, hg, hco'.same s1619, fun H20 s20 => q H20⟩
end
end KW
end

section
set_option Elab.async false
set_option linter.all false
set_option maxRecDepth 100000
set_option maxHeartbeats 4000000
set_option exponentiation.threshold 100000
namespace KW
open PySem PySem.Spec PyProof.Rows L2 K38
/-- a def of the module stands under its name -/
structure FF (K : PySem.W.Frag) (mg : Str → Option Value) (x : Str) (st : Stmt) : Prop where
  ex : ∃ (f : Addr) (fd : FuncData), mg x = some (.ref f) ∧ Fun K x x st f fd
/-- a method stands in its class -/
structure MM (K : PySem.W.Frag) (C : Addr) (m q : Str) (st : Stmt) : Prop where
  ex : ∃ (f : Addr) (fd : FuncData), PySem.W.findIn K (.ref C) m = some (some (.ref f)) ∧ PySem.W.isFn K (.ref f) = true ∧ Fun K m q st f fd
section
variable {K : PySem.W.Frag} {mg : Str → Option Value} {h : Heap} {C f : Addr} {x q : Str} {st : Stmt} {oc kV doc pm cdv ct : Value} {od an : Option Addr} {osl : Array (Option Value)}
theorem ff_mk (X : K.In h) (G : h.Ns mainGlobals mg) (a : PySem.W.nsIn K mainGlobals x = some (some (.ref f))) (l : K.lookup f = some ⟨oc, od, .func (PySem.W.fnOf x x (defArgs st) (defBody st) (defScope st) .none kV doc pm an cdv ct), osl⟩) (c : PySem.W.codeIn K cdv x = true) (k : PySem.W.keepIn K (.ref f) = true) : FF K mg x st :=
  ⟨f, _, PySem.W.mg_of X G a, fun_mk (st := st) l c k⟩
theorem mm_mk (a : PySem.W.findIn K (.ref C) x = some (some (.ref f))) (i : PySem.W.isFn K (.ref f) = true) (l : K.lookup f = some ⟨oc, od, .func (PySem.W.fnOf x q (defArgs st) (defBody st) (defScope st) .none kV doc pm an cdv ct), osl⟩) (c : PySem.W.codeIn K cdv q = true) (k : PySem.W.keepIn K (.ref f) = true) : MM K C x q st :=
  ⟨f, _, a, i, fun_mk (st := st) l c k⟩
end
/-- Ratio -/
structure CRat (K : PySem.W.Frag) (mg : Str → Option Value) (C : Addr) : Prop where
  cl : Cls K C
  nN : NoAttr K C "n"
  nD : NoAttr K C "d"
  mgC : mg "Ratio" = some (.ref C)
  ic : C8.InsC K C
  mkI : PySem.W.makesIn K C = true
  kc : PySem.W.keepIn K (.ref C) = true
  sf : PySem.W.selfFirst K C = true
  ne : PySem.W.findIn K (.ref C) "__ne__" = some (some (.builtin "object.__ne__"))
  mo : PySem.W.mroIn K C (.type "object") = some true
  gcd : mg "gcd" = some (.builtin "math.gcd")
  init : ∃ f fd, PySem.W.findIn K (.ref C) "__init__" = some (some (.ref f)) ∧ PySem.W.isFn K (.ref f) = true ∧ FunD K "__init__" "Ratio.__init__" (defArgs sRI) (defBody sRI) (defScope sRI) [.int 1] [] f fd
  eq_ : MM K C "__eq__" "Ratio.__eq__" sRE
  add_ : MM K C "__add__" "Ratio.__add__" sRA
  sub_ : MM K C "__sub__" "Ratio.__sub__" sRS
  mul_ : MM K C "__mul__" "Ratio.__mul__" sRM
  is_zero_ : MM K C "is_zero" "Ratio.is_zero" sRZ
  sign_ : MM K C "sign" "Ratio.sign" sRG
  over_ : MM K C "over" "Ratio.over" sRO
  half_ : MM K C "half" "Ratio.half" sRH
/-- Metric -/
structure CMet (K : PySem.W.Frag) (mg : Str → Option Value) (M : Addr) : Prop where
  cl : Cls K M
  nN : NoAttr K M "n"
  nR : NoAttr K M "rows"
  mgM : mg "Metric" = some (.ref M)
  mkI : PySem.W.makesIn K M = true
  kc : PySem.W.keepIn K (.ref M) = true
  most : ∃ t, mg "MOST" = some (.int 8 t)
  init : MM K M "__init__" "Metric.__init__" s_Metric_init
theorem rt_of {P : Program} {w : World} {K : PySem.W.Frag} {mg : Str → Option Value} {base : Heap} {C : Addr} (B : NM mg) (R : CRat K mg C) : RO P w K mg base C := by
  have rt : RT P w K mg base C := by
    refine ⟨R.cl, R.nN, R.nD, R.mgC, R.ic, B.isinstance, ?_⟩
    obtain ⟨f, fd, a, i, F⟩ := R.init
    obtain ⟨ds, v1, b1⟩ := FunD.binds1 (ps := ["self", "n", "d"]) F 3 1 (by simp) rfl (fun T kV doc pm an cdv ct us its hu hi => match us, its, hu, hi with | [_, _, _], [_], _, _ => ⟨_, rfl, rfl⟩)
    obtain ⟨es, v2, b2⟩ := FunD.binds1 (ps := ["self", "n", "d"]) F 2 0 (by simp) rfl (fun T kV doc pm an cdv ct us its hu hi => match us, its, hu, hi with | [_, _], [_], _, _ => ⟨_, rfl, rfl⟩)
    cases v1
    cases v2 with
    | cons r rn =>
      cases rn
      obtain ⟨t, rfl⟩ := r
      exact ⟨f, fd, t, ⟨R.mkI, a, i, R.kc⟩, b1, b2, ok_RI F R.cl R.nN R.nD R.gcd⟩
  obtain ⟨f_eq_, d_eq_, a_eq_, i_eq_, F_eq_⟩ := R.eq_.ex
  have b_eq_ := F_eq_.binds (ps := ["self", "other"]) fun _ _ _ _ _ _ us hl => match us, hl with | [_, _], _ => rfl
  obtain ⟨f_add_, d_add_, a_add_, i_add_, F_add_⟩ := R.add_.ex
  have b_add_ := F_add_.binds (ps := ["self", "other"]) fun _ _ _ _ _ _ us hl => match us, hl with | [_, _], _ => rfl
  obtain ⟨f_sub_, d_sub_, a_sub_, i_sub_, F_sub_⟩ := R.sub_.ex
  have b_sub_ := F_sub_.binds (ps := ["self", "other"]) fun _ _ _ _ _ _ us hl => match us, hl with | [_, _], _ => rfl
  obtain ⟨f_mul_, d_mul_, a_mul_, i_mul_, F_mul_⟩ := R.mul_.ex
  have b_mul_ := F_mul_.binds (ps := ["self", "other"]) fun _ _ _ _ _ _ us hl => match us, hl with | [_, _], _ => rfl
  obtain ⟨f_is_zero_, d_is_zero_, a_is_zero_, i_is_zero_, F_is_zero_⟩ := R.is_zero_.ex
  have b_is_zero_ := F_is_zero_.binds (ps := ["self"]) fun _ _ _ _ _ _ us hl => match us, hl with | [_], _ => rfl
  obtain ⟨f_sign_, d_sign_, a_sign_, i_sign_, F_sign_⟩ := R.sign_.ex
  have b_sign_ := F_sign_.binds (ps := ["self"]) fun _ _ _ _ _ _ us hl => match us, hl with | [_], _ => rfl
  obtain ⟨f_over_, d_over_, a_over_, i_over_, F_over_⟩ := R.over_.ex
  have b_over_ := F_over_.binds (ps := ["self", "other"]) fun _ _ _ _ _ _ us hl => match us, hl with | [_, _], _ => rfl
  obtain ⟨f_half_, d_half_, a_half_, i_half_, F_half_⟩ := R.half_.ex
  have b_half_ := F_half_.binds (ps := ["self"]) fun _ _ _ _ _ _ us hl => match us, hl with | [_], _ => rfl
  exact { toRT := rt, sf := R.sf, ne := R.ne, mo := R.mo
          add := ⟨_, _, a_add_, i_add_, b_add_, ok_RA F_add_ rt⟩
          sub := ⟨_, _, a_sub_, i_sub_, b_sub_, ok_RS F_sub_ rt⟩
          mul := ⟨_, _, a_mul_, i_mul_, b_mul_, ok_RM F_mul_ rt⟩
          eq := ⟨_, _, a_eq_, i_eq_, b_eq_, ok_RE F_eq_ rt⟩
          isz := ⟨_, _, ⟨a_is_zero_, i_is_zero_, F_is_zero_.kp⟩, b_is_zero_, ok_RZ F_is_zero_ rt⟩
          sign := ⟨_, _, ⟨a_sign_, i_sign_, F_sign_.kp⟩, b_sign_, ok_RG F_sign_ rt B.int⟩
          over := ⟨_, _, ⟨a_over_, i_over_, F_over_.kp⟩, b_over_, ok_RO F_over_ rt⟩
          half := ⟨_, _, ⟨a_half_, i_half_, F_half_.kp⟩, b_half_, ok_RH F_half_ rt⟩ }
theorem all_mk {P : Program} {w : World} {K : PySem.W.Frag} {mg : Str → Option Value} {C M FE fI fa : Addr} (hfa : mg "law" = some (.ref fa)) (B : NM mg) (R : CRat K mg C) (Mt : CMet K mg M) (RT : RefTxt P K mg FE fI)
    (h_zero : FF K mg "zero" s_zero) (h_is_rational : FF K mg "is_rational" s_is_rational) (h_as_ratio : FF K mg "as_ratio" s_as_ratio) (h_products_of : FF K mg "products_of" s_products_of) (h_gram : FF K mg "gram" s_gram) (h_next_place : FF K mg "next_place" s_next_place) (h_eliminated : FF K mg "eliminated" s_eliminated) (h_squares_of : FF K mg "squares_of" s_squares_of) (h_is_euclidean : FF K mg "is_euclidean" s_is_euclidean) (h_told_squares : FF K mg "told_squares" s_told_squares) (h_dimension : FF K mg "dimension" s_dimension) (h_coordinates : FF K mg "coordinates" s_coordinates) (h_taken_rows : FF K mg "taken_rows" s_taken_rows) (h_keeps_triangles : FF K mg "keeps_triangles" s_keeps_triangles) (h_is_apart : FF K mg "is_apart" s_is_apart) (h_state : FF K mg "_law_state" s_state) (h_take : FF K mg "_law_take" s_take) (h_order_of : FF K mg "_law_order_of" s_order_of) (h_shortest : FF K mg "_law_shortest" s_shortest) (h_web : FF K mg "_law_web" s_web) (h_renamed : FF K mg "_law_renamed" s_renamed) (h_of_tree : FF K mg "_law_of_tree" s_of_tree) (h_grid : FF K mg "_law_grid" s_grid) (h_band : FF K mg "_law_band" s_band) (h_levels : FF K mg "_law_levels" s_levels) (h_rows : FF K mg "_law_rows" s_rows) (h_factor : FF K mg "_law_factor" s_factor) (h_ratios : FF K mg "_law_ratios" s_ratios) (h_is : FF K mg "_law_is" s_is) (h_determinant : FF K mg "_law_determinant" s_determinant) (h_parts : FF K mg "_law_parts" s_parts) (h_twice_gram : FF K mg "_law_twice_gram" s_twice_gram) (h_rank : FF K mg "_law_rank" s_rank) (h_told_points : FF K mg "_law_told_points" s_told_points) (h_root : FF K mg "_law_root" s_root) (h_distances : FF K mg "_law_distances" s_distances) (h_reason : FF K mg "_law_reason" s_reason) (h_sum : FF K mg "_law_sum" s_sum) (h_coordinates_hold : FF K mg "_law_coordinates_hold" s_coordinates_hold) (h_law : FF K mg "law" s_law) :
    ∃ fd : FuncData, (∀ (s : Shared) (u : Value), BindsTo s fd ⟨[u], []⟩ [("_law_script", u)]) ∧ ∀ base : Heap, K.In base → base.Ns mainGlobals mg → FnOk P w K mg base CX0 19 fa fd ["_law_script"] (spLaw K) := by
  obtain ⟨f_law, d_law, m_law, F_law⟩ := h_law.ex
  cases hfa.symm.trans m_law
  refine ⟨d_law, fun s u => ?_, fun base Xb Gb => ?_⟩
  · obtain ⟨oc, od, kV, doc, pm, an, cdv, ct, osl, rfl, lk, hcd⟩ := F_law.ex
    exact .of_eq rfl
  have T : RO P w K mg base C := rt_of B R
  have clM := Mt.cl
  have nN := Mt.nN
  have nR := Mt.nR
  obtain ⟨f_zero, d_zero, m_zero, F_zero⟩ := h_zero.ex
  have b_zero := F_zero.binds (ps := []) fun _ _ _ _ _ _ us hl => match us, hl with | [], _ => rfl
  have G_zero : FnAt P w K mg base CX0 4 "zero" f_zero d_zero [] [] (spZero C) := ⟨m_zero, F_zero.kp, b_zero, ok_zero F_zero T⟩
  obtain ⟨f_is_rational, d_is_rational, m_is_rational, F_is_rational⟩ := h_is_rational.ex
  have b_is_rational := F_is_rational.binds (ps := ["value"]) fun _ _ _ _ _ _ us hl => match us, hl with | [_], _ => rfl
  have G_is_rational : FnAt P w K mg base CX0 4 "is_rational" f_is_rational d_is_rational ["value"] [] (spIsRat C) := ⟨m_is_rational, F_is_rational.kp, b_is_rational, ok_israt F_is_rational T⟩
  obtain ⟨f_as_ratio, d_as_ratio, m_as_ratio, F_as_ratio⟩ := h_as_ratio.ex
  have b_as_ratio := F_as_ratio.binds (ps := ["value"]) fun _ _ _ _ _ _ us hl => match us, hl with | [_], _ => rfl
  have G_as_ratio : FnAt P w K mg base CX0 4 "as_ratio" f_as_ratio d_as_ratio ["value"] [] (spAsR C) := ⟨m_as_ratio, F_as_ratio.kp, b_as_ratio, ok_asr F_as_ratio T⟩
  obtain ⟨f_products_of, d_products_of, m_products_of, F_products_of⟩ := h_products_of.ex
  have b_products_of := F_products_of.binds (ps := ["rows"]) fun _ _ _ _ _ _ us hl => match us, hl with | [_], _ => rfl
  have G_products_of : FnAt P w K mg base CX0 7 "products_of" f_products_of d_products_of ["rows"] [] (spProd C) := ⟨m_products_of, F_products_of.kp, b_products_of, ok_prod F_products_of T B⟩
  obtain ⟨f_gram, d_gram, m_gram, F_gram⟩ := h_gram.ex
  have b_gram := F_gram.binds (ps := ["m"]) fun _ _ _ _ _ _ us hl => match us, hl with | [_], _ => rfl
  have G_gram : FnAt P w K mg base CX0 9 "gram" f_gram d_gram ["m"] [] (spGram M C) := ⟨m_gram, F_gram.kp, b_gram, ok_gram F_gram T clM nR G_products_of⟩
  obtain ⟨f_next_place, d_next_place, m_next_place, F_next_place⟩ := h_next_place.ex
  have b_next_place := F_next_place.binds (ps := ["work"]) fun _ _ _ _ _ _ us hl => match us, hl with | [_], _ => rfl
  have G_next_place : FnAt P w K mg base CX0 7 "next_place" f_next_place d_next_place ["work"] [] (spNext C) := ⟨m_next_place, F_next_place.kp, b_next_place, ok_next F_next_place T B⟩
  obtain ⟨f_eliminated, d_eliminated, m_eliminated, F_eliminated⟩ := h_eliminated.ex
  have b_eliminated := F_eliminated.binds (ps := ["rows"]) fun _ _ _ _ _ _ us hl => match us, hl with | [_], _ => rfl
  have G_eliminated : FnAt P w K mg base CX0 9 "eliminated" f_eliminated d_eliminated ["rows"] [] (spElim C) := ⟨m_eliminated, F_eliminated.kp, b_eliminated, ok_elim F_eliminated T B G_next_place⟩
  obtain ⟨f_squares_of, d_squares_of, m_squares_of, F_squares_of⟩ := h_squares_of.ex
  have b_squares_of := F_squares_of.binds (ps := ["rows"]) fun _ _ _ _ _ _ us hl => match us, hl with | [_], _ => rfl
  have G_squares_of : FnAt P w K mg base CX0 11 "squares_of" f_squares_of d_squares_of ["rows"] [] (spSquares C) := ⟨m_squares_of, F_squares_of.kp, b_squares_of, ok_sq F_squares_of T B G_eliminated⟩
  obtain ⟨f_is_euclidean, d_is_euclidean, m_is_euclidean, F_is_euclidean⟩ := h_is_euclidean.ex
  have b_is_euclidean := F_is_euclidean.binds (ps := ["m"]) fun _ _ _ _ _ _ us hl => match us, hl with | [_], _ => rfl
  have G_is_euclidean : FnAt P w K mg base CX0 13 "is_euclidean" f_is_euclidean d_is_euclidean ["m"] [] (spEuc M C) := ⟨m_is_euclidean, F_is_euclidean.kp, b_is_euclidean, ok_euc F_is_euclidean G_squares_of G_gram⟩
  obtain ⟨f_told_squares, d_told_squares, m_told_squares, F_told_squares⟩ := h_told_squares.ex
  have b_told_squares := F_told_squares.binds (ps := ["m"]) fun _ _ _ _ _ _ us hl => match us, hl with | [_], _ => rfl
  have G_told_squares : FnAt P w K mg base (L2.CX P w) 13 "told_squares" f_told_squares d_told_squares ["m"] [] (spToldSq M C FE) := ⟨m_told_squares, F_told_squares.kp, b_told_squares, ok_toldsq F_told_squares RT G_squares_of G_gram⟩
  obtain ⟨f_dimension, d_dimension, m_dimension, F_dimension⟩ := h_dimension.ex
  have b_dimension := F_dimension.binds (ps := ["m"]) fun _ _ _ _ _ _ us hl => match us, hl with | [_], _ => rfl
  have G_dimension : FnAt P w K mg base (L2.CX P w) 15 "dimension" f_dimension d_dimension ["m"] [] (spDim M C FE) := ⟨m_dimension, F_dimension.kp, b_dimension, ok_dim F_dimension B G_told_squares⟩
  obtain ⟨f_coordinates, d_coordinates, m_coordinates, F_coordinates⟩ := h_coordinates.ex
  have b_coordinates := F_coordinates.binds (ps := ["m"]) fun _ _ _ _ _ _ us hl => match us, hl with | [_], _ => rfl
  have G_coordinates : FnAt P w K mg base (L2.CX P w) 15 "coordinates" f_coordinates d_coordinates ["m"] [] (spCoord M C FE) := ⟨m_coordinates, F_coordinates.kp, b_coordinates, ok_coord F_coordinates B G_zero G_told_squares⟩
  obtain ⟨f_taken_rows, d_taken_rows, m_taken_rows, F_taken_rows⟩ := h_taken_rows.ex
  have b_taken_rows := F_taken_rows.binds (ps := ["rows"]) fun _ _ _ _ _ _ us hl => match us, hl with | [_], _ => rfl
  have G_taken_rows : FnAt P w K mg base CX0 6 "taken_rows" f_taken_rows d_taken_rows ["rows"] [] (spTaken C) := ⟨m_taken_rows, F_taken_rows.kp, b_taken_rows, ok_taken F_taken_rows T B G_is_rational G_as_ratio⟩
  obtain ⟨f_keeps_triangles, d_keeps_triangles, m_keeps_triangles, F_keeps_triangles⟩ := h_keeps_triangles.ex
  have b_keeps_triangles := F_keeps_triangles.binds (ps := ["rows"]) fun _ _ _ _ _ _ us hl => match us, hl with | [_], _ => rfl
  have G_keeps_triangles : FnAt P w K mg base CX0 10 "keeps_triangles" f_keeps_triangles d_keeps_triangles ["rows"] [] (spTri C) := ⟨m_keeps_triangles, F_keeps_triangles.kp, b_keeps_triangles, ok_tri F_keeps_triangles T B⟩
  obtain ⟨f_is_apart, d_is_apart, m_is_apart, F_is_apart⟩ := h_is_apart.ex
  have b_is_apart := F_is_apart.binds (ps := ["rows"]) fun _ _ _ _ _ _ us hl => match us, hl with | [_], _ => rfl
  have G_is_apart : FnAt P w K mg base CX0 10 "is_apart" f_is_apart d_is_apart ["rows"] [] (spTri C) := ⟨m_is_apart, F_is_apart.kp, b_is_apart, ok_apart F_is_apart T B⟩
  obtain ⟨f_take, d_take, m_take, F_take⟩ := h_take.ex
  have b_take := F_take.binds (ps := ["_law_state_here", "_law_m"]) fun _ _ _ _ _ _ us hl => match us, hl with | [_, _], _ => rfl
  have G_take : FnAt P w K mg base CX0 2 "_law_take" f_take d_take ["_law_state_here", "_law_m"] [] spTake := ⟨m_take, F_take.kp, b_take, ok_take F_take B⟩
  obtain ⟨f_state, d_state, m_state, F_state⟩ := h_state.ex
  have b_state := F_state.binds (ps := ["_law_script"]) fun _ _ _ _ _ _ us hl => match us, hl with | [_], _ => rfl
  have G_state : FnAt P w K mg base CX0 2 "_law_state" f_state d_state ["_law_script"] [] (spState K) := ⟨m_state, F_state.kp, b_state, ok_state F_state B⟩
  obtain ⟨f_order_of, d_order_of, m_order_of, F_order_of⟩ := h_order_of.ex
  have b_order_of := F_order_of.binds (ps := ["_law_state_here", "_law_n"]) fun _ _ _ _ _ _ us hl => match us, hl with | [_, _], _ => rfl
  have G_order_of : FnAt P w K mg base CX0 4 "_law_order_of" f_order_of d_order_of ["_law_state_here", "_law_n"] [] spOrder := ⟨m_order_of, F_order_of.kp, b_order_of, ok_order F_order_of B G_take⟩
  obtain ⟨f_shortest, d_shortest, m_shortest, F_shortest⟩ := h_shortest.ex
  have b_shortest := F_shortest.binds (ps := ["_law_rows_here"]) fun _ _ _ _ _ _ us hl => match us, hl with | [_], _ => rfl
  have G_shortest : FnAt P w K mg base CX0 2 "_law_shortest" f_shortest d_shortest ["_law_rows_here"] [] spShort := ⟨m_shortest, F_shortest.kp, b_shortest, ok_short F_shortest B⟩
  obtain ⟨f_web, d_web, m_web, F_web⟩ := h_web.ex
  have b_web := F_web.binds (ps := ["_law_state_here", "_law_n", "_law_thick"]) fun _ _ _ _ _ _ us hl => match us, hl with | [_, _, _], _ => rfl
  have G_web : FnAt P w K mg base CX0 4 "_law_web" f_web d_web ["_law_state_here", "_law_n", "_law_thick"] [] spWeb := ⟨m_web, F_web.kp, b_web, ok_web F_web B G_take G_shortest⟩
  obtain ⟨f_renamed, d_renamed, m_renamed, F_renamed⟩ := h_renamed.ex
  have b_renamed := F_renamed.binds (ps := ["_law_rows_here", "_law_order"]) fun _ _ _ _ _ _ us hl => match us, hl with | [_, _], _ => rfl
  have G_renamed : FnAt P w K mg base CX0 2 "_law_renamed" f_renamed d_renamed ["_law_rows_here", "_law_order"] [] spRenamed := ⟨m_renamed, F_renamed.kp, b_renamed, ok_renamed F_renamed B⟩
  obtain ⟨f_of_tree, d_of_tree, m_of_tree, F_of_tree⟩ := h_of_tree.ex
  have b_of_tree := F_of_tree.binds (ps := ["_law_state_here", "_law_n"]) fun _ _ _ _ _ _ us hl => match us, hl with | [_, _], _ => rfl
  have G_of_tree : FnAt P w K mg base CX0 6 "_law_of_tree" f_of_tree d_of_tree ["_law_state_here", "_law_n"] [] spGen := ⟨m_of_tree, F_of_tree.kp, b_of_tree, ok_tree F_of_tree B G_take G_shortest G_renamed G_order_of⟩
  obtain ⟨f_grid, d_grid, m_grid, F_grid⟩ := h_grid.ex
  have b_grid := F_grid.binds (ps := ["_law_state_here", "_law_n"]) fun _ _ _ _ _ _ us hl => match us, hl with | [_, _], _ => rfl
  have G_grid : FnAt P w K mg base CX0 4 "_law_grid" f_grid d_grid ["_law_state_here", "_law_n"] [] spGen := ⟨m_grid, F_grid.kp, b_grid, ok_grid F_grid B G_take⟩
  obtain ⟨f_band, d_band, m_band, F_band⟩ := h_band.ex
  have b_band := F_band.binds (ps := ["_law_state_here", "_law_n"]) fun _ _ _ _ _ _ us hl => match us, hl with | [_, _], _ => rfl
  have G_band : FnAt P w K mg base CX0 4 "_law_band" f_band d_band ["_law_state_here", "_law_n"] [] spGen := ⟨m_band, F_band.kp, b_band, ok_band F_band B G_take⟩
  obtain ⟨f_levels, d_levels, m_levels, F_levels⟩ := h_levels.ex
  have b_levels := F_levels.binds (ps := ["_law_state_here", "_law_n"]) fun _ _ _ _ _ _ us hl => match us, hl with | [_, _], _ => rfl
  have G_levels : FnAt P w K mg base CX0 4 "_law_levels" f_levels d_levels ["_law_state_here", "_law_n"] [] spGen := ⟨m_levels, F_levels.kp, b_levels, ok_levels F_levels B G_take⟩
  obtain ⟨f_rows, d_rows, m_rows, F_rows⟩ := h_rows.ex
  have b_rows := F_rows.binds (ps := ["_law_state_here", "_law_most"]) fun _ _ _ _ _ _ us hl => match us, hl with | [_, _], _ => rfl
  have G_rows : FnAt P w K mg base CX0 8 "_law_rows" f_rows d_rows ["_law_state_here", "_law_most"] [] spRows := ⟨m_rows, F_rows.kp, b_rows, ok_rows F_rows B G_take G_web G_of_tree G_grid G_band G_levels⟩
  obtain ⟨f_factor, d_factor, m_factor, F_factor⟩ := h_factor.ex
  have b_factor := F_factor.binds (ps := ["_law_state_here"]) fun _ _ _ _ _ _ us hl => match us, hl with | [_], _ => rfl
  have G_factor : FnAt P w K mg base CX0 4 "_law_factor" f_factor d_factor ["_law_state_here"] [] spFactor := ⟨m_factor, F_factor.kp, b_factor, ok_factor F_factor G_take⟩
  obtain ⟨f_ratios, d_ratios, m_ratios, F_ratios⟩ := h_ratios.ex
  have b_ratios := F_ratios.binds (ps := ["_law_rows_here", "_law_factor_here"]) fun _ _ _ _ _ _ us hl => match us, hl with | [_, _], _ => rfl
  have G_ratios : FnAt P w K mg base CX0 5 "_law_ratios" f_ratios d_ratios ["_law_rows_here", "_law_factor_here"] [] (spRatios C) := ⟨m_ratios, F_ratios.kp, b_ratios, ok_ratios F_ratios T B⟩
  obtain ⟨f_is, d_is, m_is, F_is⟩ := h_is.ex
  have b_is := F_is.binds (ps := ["_law_told", "_law_due"]) fun _ _ _ _ _ _ us hl => match us, hl with | [_, _], _ => rfl
  have G_is : FnAt P w K mg base CX0 2 "_law_is" f_is d_is ["_law_told", "_law_due"] [] spIs := ⟨m_is, F_is.kp, b_is, ok_is F_is B⟩
  obtain ⟨f_determinant, d_determinant, m_determinant, F_determinant⟩ := h_determinant.ex
  have b_determinant := F_determinant.binds (ps := ["_law_rows_here"]) fun _ _ _ _ _ _ us hl => match us, hl with | [_], _ => rfl
  have G_determinant : FnAt P w K mg base CX0 10 "_law_determinant" f_determinant d_determinant ["_law_rows_here"] [] (spDet 4) := ⟨m_determinant, F_determinant.kp, b_determinant, ok_det F_determinant B m_determinant b_determinant 4 (by decide)⟩
  obtain ⟨f_parts, d_parts, m_parts, F_parts⟩ := h_parts.ex
  have b_parts := F_parts.binds (ps := ["_law_n"]) fun _ _ _ _ _ _ us hl => match us, hl with | [_], _ => rfl
  have G_parts : FnAt P w K mg base CX0 2 "_law_parts" f_parts d_parts ["_law_n"] [] spParts := ⟨m_parts, F_parts.kp, b_parts, ok_parts F_parts B⟩
  obtain ⟨f_twice_gram, d_twice_gram, m_twice_gram, F_twice_gram⟩ := h_twice_gram.ex
  have b_twice_gram := F_twice_gram.binds (ps := ["_law_rows_here"]) fun _ _ _ _ _ _ us hl => match us, hl with | [_], _ => rfl
  have G_twice_gram : FnAt P w K mg base CX0 2 "_law_twice_gram" f_twice_gram d_twice_gram ["_law_rows_here"] [] spTwice := ⟨m_twice_gram, F_twice_gram.kp, b_twice_gram, ok_twice F_twice_gram B⟩
  obtain ⟨f_rank, d_rank, m_rank, F_rank⟩ := h_rank.ex
  have b_rank := F_rank.binds (ps := ["_law_rows_here"]) fun _ _ _ _ _ _ us hl => match us, hl with | [_], _ => rfl
  have G_rank : FnAt P w K mg base CX0 11 "_law_rank" f_rank d_rank ["_law_rows_here"] [] spRank := ⟨m_rank, F_rank.kp, b_rank, ok_rank F_rank B G_parts G_determinant⟩
  obtain ⟨f_told_points, d_told_points, m_told_points, F_told_points⟩ := h_told_points.ex
  have b_told_points := F_told_points.binds (ps := ["_law_state_here"]) fun _ _ _ _ _ _ us hl => match us, hl with | [_], _ => rfl
  have G_told_points : FnAt P w K mg base CX0 6 "_law_told_points" f_told_points d_told_points ["_law_state_here"] [] spTold := ⟨m_told_points, F_told_points.kp, b_told_points, ok_told F_told_points B G_take G_order_of⟩
  obtain ⟨f_root, d_root, m_root, F_root⟩ := h_root.ex
  have b_root := F_root.binds (ps := ["_law_value"]) fun _ _ _ _ _ _ us hl => match us, hl with | [_], _ => rfl
  have G_root : FnAt P w K mg base CX0 2 "_law_root" f_root d_root ["_law_value"] [] spRoot := ⟨m_root, F_root.kp, b_root, ok_root F_root⟩
  obtain ⟨f_distances, d_distances, m_distances, F_distances⟩ := h_distances.ex
  have b_distances := F_distances.binds (ps := ["_law_points"]) fun _ _ _ _ _ _ us hl => match us, hl with | [_], _ => rfl
  have G_distances : FnAt P w K mg base CX0 4 "_law_distances" f_distances d_distances ["_law_points"] [] spDistN := ⟨m_distances, F_distances.kp, b_distances, ok_dist F_distances B G_root⟩
  obtain ⟨f_reason, d_reason, m_reason, F_reason⟩ := h_reason.ex
  have b_reason := F_reason.binds (ps := ["_law_which", "_law_m"]) fun _ _ _ _ _ _ us hl => match us, hl with | [_, _], _ => rfl
  have G_reason : FnAt P w K mg base CX0 17 "_law_reason" f_reason d_reason ["_law_which", "_law_m"] [] (spReason M C) := ⟨m_reason, F_reason.kp, b_reason, ok_reason F_reason RT G_dimension G_coordinates⟩
  obtain ⟨f_sum, d_sum, m_sum, F_sum⟩ := h_sum.ex
  have b_sum := F_sum.binds (ps := ["_law_numbers"]) fun _ _ _ _ _ _ us hl => match us, hl with | [_], _ => rfl
  have G_sum : FnAt P w K mg base CX0 8 "_law_sum" f_sum d_sum ["_law_numbers"] [] (spSum C) := ⟨m_sum, F_sum.kp, b_sum, ok_sum F_sum T⟩
  obtain ⟨f_coordinates_hold, d_coordinates_hold, m_coordinates_hold, F_coordinates_hold⟩ := h_coordinates_hold.ex
  have b_coordinates_hold := F_coordinates_hold.binds (ps := ["_law_m", "_law_told"]) fun _ _ _ _ _ _ us hl => match us, hl with | [_, _], _ => rfl
  have G_coordinates_hold : FnAt P w K mg base CX0 10 "_law_coordinates_hold" f_coordinates_hold d_coordinates_hold ["_law_m", "_law_told"] [] (spHold M C) := ⟨m_coordinates_hold, F_coordinates_hold.kp, b_coordinates_hold, ok_hold F_coordinates_hold T B clM nN nR G_sum⟩
  obtain ⟨f_M, d_M, a_M, i_M, F_M⟩ := Mt.init.ex
  have b_M := F_M.binds (ps := ["self", "rows"]) fun _ _ _ _ _ _ us hl => match us, hl with | [_, _], _ => rfl
  exact ok_law F_law T B G_state G_rows G_take G_distances G_told_points G_factor ⟨Mt.mkI, a_M, i_M, Mt.kc⟩ (ok_minit F_M B clM nN nR Mt.most G_taken_rows G_keeps_triangles G_is_apart) Mt.mgM b_M
    G_ratios G_twice_gram G_gram G_parts G_determinant G_is G_is_euclidean G_reason G_coordinates G_coordinates_hold G_dimension G_rank
end KW
end

section
set_option Elab.async false
set_option linter.all false
set_option maxRecDepth 100000
set_option maxHeartbeats 4000000
set_option exponentiation.threshold 100000
namespace KW
open PySem PySem.Spec PyProof.Rows L2 K38
theorem crat_mk {K : PySem.W.Frag} {mg : Str → Option Value} {h : Heap} {C f0 T0 : Addr} {oc0 kV0 doc0 pm0 cdv0 ct0 oT : Value} {od0 an0 dT : Option Addr} {osl0 sT : Array (Option Value)} {tT : Tok} {nT : Nat} (X : K.In h) (G : h.Ns mainGlobals mg)
    (aC : PySem.W.nsIn K mainGlobals "Ratio" = some (some (.ref C))) (pg : PySem.W.plainGet K C Str.empty = true) (hd : PySem.W.hasDictIn K C = true) (po : PySem.W.plainOver K C = true) (sa : PySem.W.findIn K (.ref C) "__setattr__" = some (some (.builtin "object.__setattr__")))
    (nN : PySem.W.findIn K (.ref C) "n" = some none) (nD : PySem.W.findIn K (.ref C) "d" = some none) (ha : PySem.W.findIn K (.ref C) "__class__" = some (some (.builtin "object.__class__"))) (hn : PySem.W.specialIn K (.builtin "object.__class__") "__get__" = some (some (.builtin "getset_descriptor.__get__")))
    (htk : PySem.W.takesIn K (.builtin "object.__class__") = some true) (hm : PySem.W.mroIn K C (.type "object") = some true) (me : PySem.W.kitOne K (.ref C) (.ref C) = some true) (mk : PySem.W.makesIn K C = true) (kc : PySem.W.keepIn K (.ref C) = true) (sf : PySem.W.selfFirst K C = true)
    (ne : PySem.W.findIn K (.ref C) "__ne__" = some (some (.builtin "object.__ne__"))) (gcd : PySem.W.nsIn K mainGlobals "gcd" = some (some (.builtin "math.gcd"))) (ai : PySem.W.findIn K (.ref C) "__init__" = some (some (.ref f0))) (ii : PySem.W.isFn K (.ref f0) = true)
    (li : K.lookup f0 = some ⟨oc0, od0, .func (PySem.W.fnOf "__init__" "Ratio.__init__" (defArgs sRI) (defBody sRI) (defScope sRI) (.ref T0) kV0 doc0 pm0 an0 cdv0 ct0), osl0⟩) (ci : PySem.W.codeIn K cdv0 "Ratio.__init__" = true) (ki : PySem.W.keepIn K (.ref f0) = true)
    (lT : K.lookup T0 = some ⟨oT, dT, .seq #[.int 1 tT] nT, sT⟩) (m1 : MM K C "__eq__" "Ratio.__eq__" sRE) (m2 : MM K C "__add__" "Ratio.__add__" sRA) (m3 : MM K C "__sub__" "Ratio.__sub__" sRS) (m4 : MM K C "__mul__" "Ratio.__mul__" sRM) (m5 : MM K C "is_zero" "Ratio.is_zero" sRZ)
    (m6 : MM K C "sign" "Ratio.sign" sRG) (m7 : MM K C "over" "Ratio.over" sRO) (m8 : MM K C "half" "Ratio.half" sRH) : CRat K mg C where
  cl := ⟨pg, hd, po, sa⟩
  nN := nN
  nD := nD
  mgC := PySem.W.mg_of X G aC
  ic := ⟨⟨pg, hd, po, sa⟩, ha, hn, htk, hm, me⟩
  mkI := mk
  kc := kc
  sf := sf
  ne := ne
  mo := hm
  gcd := PySem.W.mg_of X G gcd
  init := ⟨f0, _, ai, ii, ⟨⟨oc0, od0, .ref T0, kV0, doc0, pm0, an0, cdv0, ct0, osl0, rfl, li, ci, .inr ⟨by simp, T0, _, [.int 1 tT], nT, rfl, lT, rfl, .cons ⟨_, rfl⟩ .nil⟩, .inl rfl⟩, ki⟩⟩
  eq_ := m1
  add_ := m2
  sub_ := m3
  mul_ := m4
  is_zero_ := m5
  sign_ := m6
  over_ := m7
  half_ := m8
theorem cmet_mk {K : PySem.W.Frag} {mg : Str → Option Value} {h : Heap} {M : Addr} {t : Tok} (X : K.In h) (G : h.Ns mainGlobals mg) (aC : PySem.W.nsIn K mainGlobals "Metric" = some (some (.ref M))) (pg : PySem.W.plainGet K M Str.empty = true) (hd : PySem.W.hasDictIn K M = true)
    (po : PySem.W.plainOver K M = true) (sa : PySem.W.findIn K (.ref M) "__setattr__" = some (some (.builtin "object.__setattr__"))) (nN : PySem.W.findIn K (.ref M) "n" = some none) (nR : PySem.W.findIn K (.ref M) "rows" = some none) (mk : PySem.W.makesIn K M = true) (kc : PySem.W.keepIn K (.ref M) = true)
    (most : PySem.W.nsIn K mainGlobals "MOST" = some (some (.int 8 t))) (m1 : MM K M "__init__" "Metric.__init__" s_Metric_init) : CMet K mg M :=
  ⟨⟨pg, hd, po, sa⟩, nN, nR, PySem.W.mg_of X G aC, mk, kc, ⟨t, PySem.W.mg_of X G most⟩, m1⟩
theorem exm_me {K : PySem.W.Frag} {S : Addr} (h1 : PySem.W.subIn K (.ref S) (.type "BaseException") = some true) (h2 : PySem.W.isClsIn K S = true) (h3 : PySem.W.typeIn K (.ref S) = some (.type "type")) (h4 : PySem.W.subIn K (.ref S) (.ref S) = some true) : PySem.W.exmOne K (.ref S) (.ref S) = some true := by
  have h2' : (PySem.W.clsIn K S).isSome = true := h2
  unfold PySem.W.exmOne
  simp [PySem.W.kitCls, h1, h2', h3, h4]
theorem ref_mk {P : Program} {K : PySem.W.Frag} {mg : Str → Option Value} {h : Heap} {C fI N cda cc : Addr} {nm q : Str} {bs bm sub : List Value} {sn : List Str} {ab : Bool} {col : Option Bool} {dd : Option Addr} {k0 k1 k2 k3 k5 : Option Value} {oc doc pm ct ccl cl : Value} {od an cdd cld : Option Addr}
    {osl ccs csl : Array (Option Value)} {vs : Array Value} {file : Str} {tf : Tok} (X : K.In h) (G : h.Ns mainGlobals mg) (aC : PySem.W.nsIn K mainGlobals "Refused" = some (some (.ref C))) (sup : PySem.W.nsIn K mainGlobals "super" = some none)
    (xL : K.lookup C = some (excClassObj nm q C N bs bm true sn sub ab col dd k0 k1 k2 k3 k5 "ValueError.__new__")) (rv : PySem.HandSPX.refsVE bm = true) (al : PySem.W.alongIn K "__init__" bm = some (some (.builtin "ValueError.__init__"))) (op : PySem.W.nsIn K cStatics "thirdparty.any" = some none)
    (sa : PySem.W.findIn K (.ref C) "__setattr__" = some (some (.builtin "object.__setattr__"))) (ga : PySem.W.findIn K (.ref C) "__getattribute__" = some (some (.builtin "BaseException.__getattribute__"))) (gg : PySem.W.findIn K (.ref C) "__getattr__" = some none) (nr : PySem.W.findIn K (.ref C) "reason" = some none)
    (iC : PySem.W.findIn K (.ref C) "__init__" = some (some (.ref fI))) (tC : PySem.W.typeIn K (.ref fI) = some (.type "function")) (kC : PySem.W.keepIn K (.ref C) = true) (exC : PySem.W.subIn K (.ref C) (.type "BaseException") = some true) (tyC : PySem.W.typeIn K (.ref C) = some (.type "type")) (hdC : PySem.W.hasDictIn K C = true)
    (ic : PySem.W.isClsIn K C = true) (sC : PySem.W.subIn K (.ref C) (.ref C) = some true) (ve : PySem.W.mroIn K C (.type "ValueError") = some true) (me : PySem.W.mroIn K C (.ref C) = some true)
    (lf : K.lookup fI = some ⟨oc, od, .func (PySem.W.ksFn "__init__" "Refused.__init__" (defArgs s_Ref_init) (defBody s_Ref_init) (defScope s_Ref_init) .none .none doc pm an (.ref cda) ct cc), osl⟩) (cd : PySem.W.codeIn K (.ref cda) "Refused.__init__" = true)
    (lc : K.lookup cda = some ⟨ccl, cdd, .fields vs, ccs⟩) (v2 : vs[2]? = some (.str file tf)) (fl : ((P.main.file : Str) == file) = true) (lcc : K.lookup cc = some ⟨cl, cld, .cell (some (.ref C)), csl⟩) (tp : (P.main.scope.names.lookup ("super" : Str)).isSome = false) : RefTxt P K mg C fI where
  gC := PySem.W.mg_of X G aC
  sup := PySem.W.mg_none_of X G sup
  cls := ⟨nm, q, N, bs, bm, sn, sub, ab, col, dd, k0, k1, k2, k3, k5, xL, rv, al⟩
  op := op
  sa := sa
  ga := ga
  gg := gg
  noN := nr
  iC := iC
  tC := tC
  kC := kC
  exC := exC
  tyC := tyC
  hdC := hdC
  te := exm_me exC ic tyC sC
  ve := ve
  me := me
  fn := ⟨oc, od, doc, pm, an, cda, cc, ct, osl, ccl, cdd, vs, ccs, file, tf, cl, cld, csl, lf, cd, lc, v2, fl, lcc⟩
  htop := tp
theorem pick {K : PySem.W.Frag} {h : Heap} (Q : PySem.W.Frag → Prop) (X : K.In h) (q : Q K) : Q K := q
theorem walk {l : PySem.W.OpenLaw} {q : Program} {loose : List Str} {XP : (Str → Option Value) → Heap → Prop} {YP : World → Heap → Prop} {d : DefRec} {K : Params → PySem.W.Frag} (hn : l.most = some 63) (hdf : d.params.defaults = []) (hY : ∀ (w : World) (h : Heap), YP w h → (K w.params).In h)
    (F : ∀ (w : World) (mg : Str → Option Value) (fa : Addr) (h : Heap), (K w.params).In h → h.Ns mainGlobals mg → mg d.name = some (.ref fa) →
      ∃ fd : FuncData, (∀ (s : Shared) (u : Value), BindsTo s fd ⟨[u], []⟩ [("_law_script", u)]) ∧ ∀ base : Heap, (K w.params).In base → base.Ns mainGlobals mg → FnOk l.prog w (K w.params) mg base CX0 19 fa fd ["_law_script"] (spLaw (K w.params))) : PySem.W.WalkO q loose XP YP l.row.toRowW d [] (fun f vs => PySem.call f vs) :=
  L2.walk_of (n := 63) (k := 19) (x := "_law_script") (CX := fun _ => CX0) (sp := fun w => spLaw (K w.params)) hn (by decide) hdf ⟨rfl, by decide, by decide⟩ hY F (fun _ _ a ns _ _ hS => ⟨a, ns, rfl, hS, fun _ => rfl⟩) fun _ _ _ _ _ z => z
end KW
end
set_option Elab.async false
set_option maxRecDepth 100000
open PySem PySem.W PyProof.Rows in
set_option maxRecDepth 100000 in
set_option maxHeartbeats 0 in
theorem PySem.Challenge.cw_metricparts_k38_whole_euclidean_metrics_holds : PySem.Challenge.rw_metricparts_k38_whole_euclidean_metrics.Holds := by
  w_on; o_law; k_head; (case hw => w_witness2)
  k_fill
  refine KW.walk (l := PySem.Challenge.rw_metricparts_k38_whole_euclidean_metrics) rfl rfl (fun w h Y => PySem.W.kIn_of Y) ?F
  case F =>
    intro w mg fa h KX G hmg
    have z_len := PySem.W.mg_none_of (n := "len") KX G (by k_is)
    have z_range := PySem.W.mg_none_of (n := "range") KX G (by k_is)
    have z_tuple := PySem.W.mg_none_of (n := "tuple") KX G (by k_is)
    have z_list := PySem.W.mg_none_of (n := "list") KX G (by k_is)
    have z_int := PySem.W.mg_none_of (n := "int") KX G (by k_is)
    have z_abs := PySem.W.mg_none_of (n := "abs") KX G (by k_is)
    have z_min := PySem.W.mg_none_of (n := "min") KX G (by k_is)
    have z_max := PySem.W.mg_none_of (n := "max") KX G (by k_is)
    have z_sum := PySem.W.mg_none_of (n := "sum") KX G (by k_is)
    have z_isinstance := PySem.W.mg_none_of (n := "isinstance") KX G (by k_is)
    have z_bool := PySem.W.mg_none_of (n := "bool") KX G (by k_is)
    have B : KW.NM mg := ⟨z_len, z_range, z_tuple, z_list, z_int, z_abs, z_min, z_max, z_sum, z_isinstance, z_bool⟩
    have hR := KW.pick (fun K => ∃ C, KW.CRat K mg C) KX (by
      refine' ⟨_, KW.crat_mk KX G ?aC ?pg ?hd ?po ?sa ?nN ?nD ?ha ?hn ?htk ?hm ?me ?mk ?kc ?sf ?ne ?gcd ?ai ?ii ?li ?ci ?ki ?lT ?m1 ?m2 ?m3 ?m4 ?m5 ?m6 ?m7 ?m8⟩
      (case aC => first | k_is | rfl | kernel_rfl)
      (case pg => first | k_is | rfl | kernel_rfl)
      (case hd => first | k_is | rfl | kernel_rfl)
      (case po => first | k_is | rfl | kernel_rfl)
      (case sa => first | k_is | rfl | kernel_rfl)
      (case nN => first | k_is | rfl | kernel_rfl)
      (case nD => first | k_is | rfl | kernel_rfl)
      (case ha => first | k_is | rfl | kernel_rfl)
      (case hn => first | k_is | rfl | kernel_rfl)
      (case htk => first | k_is | rfl | kernel_rfl)
      (case hm => first | k_is | rfl | kernel_rfl)
      (case me => first | k_is | rfl | kernel_rfl)
      (case mk => first | k_is | rfl | kernel_rfl)
      (case kc => first | k_is | rfl | kernel_rfl)
      (case sf => first | k_is | rfl | kernel_rfl)
      (case ne => first | k_is | rfl | kernel_rfl)
      (case gcd => first | k_is | rfl | kernel_rfl)
      (case ai => first | k_is | rfl | kernel_rfl)
      (case ii => first | k_is | rfl | kernel_rfl)
      (case li => first | k_is | rfl | kernel_rfl)
      (case ci => first | k_is | rfl | kernel_rfl)
      (case ki => first | k_is | rfl | kernel_rfl)
      (case lT => first | k_is | rfl | kernel_rfl)
      (case m1 => refine' KW.mm_mk ?a ?i ?l ?c ?k; (case a => first | k_is | rfl | kernel_rfl); (case i => first | k_is | rfl | kernel_rfl); (case l => first | k_is | rfl | kernel_rfl); (case c => first | k_is | rfl | kernel_rfl); (case k => first | k_is | rfl | kernel_rfl))
      (case m2 => refine' KW.mm_mk ?a ?i ?l ?c ?k; (case a => first | k_is | rfl | kernel_rfl); (case i => first | k_is | rfl | kernel_rfl); (case l => first | k_is | rfl | kernel_rfl); (case c => first | k_is | rfl | kernel_rfl); (case k => first | k_is | rfl | kernel_rfl))
      (case m3 => refine' KW.mm_mk ?a ?i ?l ?c ?k; (case a => first | k_is | rfl | kernel_rfl); (case i => first | k_is | rfl | kernel_rfl); (case l => first | k_is | rfl | kernel_rfl); (case c => first | k_is | rfl | kernel_rfl); (case k => first | k_is | rfl | kernel_rfl))
      (case m4 => refine' KW.mm_mk ?a ?i ?l ?c ?k; (case a => first | k_is | rfl | kernel_rfl); (case i => first | k_is | rfl | kernel_rfl); (case l => first | k_is | rfl | kernel_rfl); (case c => first | k_is | rfl | kernel_rfl); (case k => first | k_is | rfl | kernel_rfl))
      (case m5 => refine' KW.mm_mk ?a ?i ?l ?c ?k; (case a => first | k_is | rfl | kernel_rfl); (case i => first | k_is | rfl | kernel_rfl); (case l => first | k_is | rfl | kernel_rfl); (case c => first | k_is | rfl | kernel_rfl); (case k => first | k_is | rfl | kernel_rfl))
      (case m6 => refine' KW.mm_mk ?a ?i ?l ?c ?k; (case a => first | k_is | rfl | kernel_rfl); (case i => first | k_is | rfl | kernel_rfl); (case l => first | k_is | rfl | kernel_rfl); (case c => first | k_is | rfl | kernel_rfl); (case k => first | k_is | rfl | kernel_rfl))
      (case m7 => refine' KW.mm_mk ?a ?i ?l ?c ?k; (case a => first | k_is | rfl | kernel_rfl); (case i => first | k_is | rfl | kernel_rfl); (case l => first | k_is | rfl | kernel_rfl); (case c => first | k_is | rfl | kernel_rfl); (case k => first | k_is | rfl | kernel_rfl))
      (case m8 => refine' KW.mm_mk ?a ?i ?l ?c ?k; (case a => first | k_is | rfl | kernel_rfl); (case i => first | k_is | rfl | kernel_rfl); (case l => first | k_is | rfl | kernel_rfl); (case c => first | k_is | rfl | kernel_rfl); (case k => first | k_is | rfl | kernel_rfl)))
    have hM := KW.pick (fun K => ∃ M, KW.CMet K mg M) KX (by
      refine' ⟨_, KW.cmet_mk KX G ?aC ?pg ?hd ?po ?sa ?nN ?nR ?mk ?kc ?most ?m1⟩
      (case aC => first | k_is | rfl | kernel_rfl)
      (case pg => first | k_is | rfl | kernel_rfl)
      (case hd => first | k_is | rfl | kernel_rfl)
      (case po => first | k_is | rfl | kernel_rfl)
      (case sa => first | k_is | rfl | kernel_rfl)
      (case nN => first | k_is | rfl | kernel_rfl)
      (case nR => first | k_is | rfl | kernel_rfl)
      (case mk => first | k_is | rfl | kernel_rfl)
      (case kc => first | k_is | rfl | kernel_rfl)
      (case most => first | k_is | rfl | kernel_rfl)
      (case m1 => refine' KW.mm_mk ?a ?i ?l ?c ?k; (case a => first | k_is | rfl | kernel_rfl); (case i => first | k_is | rfl | kernel_rfl); (case l => first | k_is | rfl | kernel_rfl); (case c => first | k_is | rfl | kernel_rfl); (case k => first | k_is | rfl | kernel_rfl)))
    have hE := KW.pick (fun K => ∃ E I, KW.RefTxt PySem.Challenge.rw_metricparts_k38_whole_euclidean_metrics.prog K mg E I) KX (by
      refine' ⟨_, _, KW.ref_mk KX G ?aC ?sup ?xL ?rv ?al ?op ?sa ?ga ?gg ?nr ?iC ?tC ?kC ?exC ?tyC ?hdC ?ic ?sC ?ve ?me ?lf ?cd ?lc ?v2 ?fl ?lcc ?tp⟩
      (case aC => first | k_is | rfl | kernel_rfl)
      (case sup => first | k_is | rfl | kernel_rfl)
      (case xL => first | k_is | rfl | kernel_rfl)
      (case rv => first | k_is | rfl | kernel_rfl)
      (case al => first | k_is | rfl | kernel_rfl)
      (case op => first | k_is | rfl | kernel_rfl)
      (case sa => first | k_is | rfl | kernel_rfl)
      (case ga => first | k_is | rfl | kernel_rfl)
      (case gg => first | k_is | rfl | kernel_rfl)
      (case nr => first | k_is | rfl | kernel_rfl)
      (case iC => first | k_is | rfl | kernel_rfl)
      (case tC => first | k_is | rfl | kernel_rfl)
      (case kC => first | k_is | rfl | kernel_rfl)
      (case exC => first | k_is | rfl | kernel_rfl)
      (case tyC => first | k_is | rfl | kernel_rfl)
      (case hdC => first | k_is | rfl | kernel_rfl)
      (case ic => first | k_is | rfl | kernel_rfl)
      (case sC => first | k_is | rfl | kernel_rfl)
      (case ve => first | k_is | rfl | kernel_rfl)
      (case me => first | k_is | rfl | kernel_rfl)
      (case lf => first | k_is | rfl | kernel_rfl)
      (case cd => first | k_is | rfl | kernel_rfl)
      (case lc => first | k_is | rfl | kernel_rfl)
      (case v2 => first | k_is | rfl | kernel_rfl)
      (case fl => first | k_is | rfl | kernel_rfl)
      (case lcc => first | k_is | rfl | kernel_rfl)
      (case tp => first | k_is | rfl | kernel_rfl))
    have h_zero := KW.pick (fun K => KW.FF K mg "zero" KW.s_zero) KX (by
      refine' KW.ff_mk KX G ?a ?l ?c ?k
      (case a => first | k_is | rfl | kernel_rfl); (case l => first | k_is | rfl | kernel_rfl); (case c => first | k_is | rfl | kernel_rfl); (case k => first | k_is | rfl | kernel_rfl))
    have h_is_rational := KW.pick (fun K => KW.FF K mg "is_rational" KW.s_is_rational) KX (by
      refine' KW.ff_mk KX G ?a ?l ?c ?k
      (case a => first | k_is | rfl | kernel_rfl); (case l => first | k_is | rfl | kernel_rfl); (case c => first | k_is | rfl | kernel_rfl); (case k => first | k_is | rfl | kernel_rfl))
    have h_as_ratio := KW.pick (fun K => KW.FF K mg "as_ratio" KW.s_as_ratio) KX (by
      refine' KW.ff_mk KX G ?a ?l ?c ?k
      (case a => first | k_is | rfl | kernel_rfl); (case l => first | k_is | rfl | kernel_rfl); (case c => first | k_is | rfl | kernel_rfl); (case k => first | k_is | rfl | kernel_rfl))
    have h_products_of := KW.pick (fun K => KW.FF K mg "products_of" KW.s_products_of) KX (by
      refine' KW.ff_mk KX G ?a ?l ?c ?k
      (case a => first | k_is | rfl | kernel_rfl); (case l => first | k_is | rfl | kernel_rfl); (case c => first | k_is | rfl | kernel_rfl); (case k => first | k_is | rfl | kernel_rfl))
    have h_gram := KW.pick (fun K => KW.FF K mg "gram" KW.s_gram) KX (by
      refine' KW.ff_mk KX G ?a ?l ?c ?k
      (case a => first | k_is | rfl | kernel_rfl); (case l => first | k_is | rfl | kernel_rfl); (case c => first | k_is | rfl | kernel_rfl); (case k => first | k_is | rfl | kernel_rfl))
    have h_next_place := KW.pick (fun K => KW.FF K mg "next_place" KW.s_next_place) KX (by
      refine' KW.ff_mk KX G ?a ?l ?c ?k
      (case a => first | k_is | rfl | kernel_rfl); (case l => first | k_is | rfl | kernel_rfl); (case c => first | k_is | rfl | kernel_rfl); (case k => first | k_is | rfl | kernel_rfl))
    have h_eliminated := KW.pick (fun K => KW.FF K mg "eliminated" KW.s_eliminated) KX (by
      refine' KW.ff_mk KX G ?a ?l ?c ?k
      (case a => first | k_is | rfl | kernel_rfl); (case l => first | k_is | rfl | kernel_rfl); (case c => first | k_is | rfl | kernel_rfl); (case k => first | k_is | rfl | kernel_rfl))
    have h_squares_of := KW.pick (fun K => KW.FF K mg "squares_of" KW.s_squares_of) KX (by
      refine' KW.ff_mk KX G ?a ?l ?c ?k
      (case a => first | k_is | rfl | kernel_rfl); (case l => first | k_is | rfl | kernel_rfl); (case c => first | k_is | rfl | kernel_rfl); (case k => first | k_is | rfl | kernel_rfl))
    have h_is_euclidean := KW.pick (fun K => KW.FF K mg "is_euclidean" KW.s_is_euclidean) KX (by
      refine' KW.ff_mk KX G ?a ?l ?c ?k
      (case a => first | k_is | rfl | kernel_rfl); (case l => first | k_is | rfl | kernel_rfl); (case c => first | k_is | rfl | kernel_rfl); (case k => first | k_is | rfl | kernel_rfl))
    have h_told_squares := KW.pick (fun K => KW.FF K mg "told_squares" KW.s_told_squares) KX (by
      refine' KW.ff_mk KX G ?a ?l ?c ?k
      (case a => first | k_is | rfl | kernel_rfl); (case l => first | k_is | rfl | kernel_rfl); (case c => first | k_is | rfl | kernel_rfl); (case k => first | k_is | rfl | kernel_rfl))
    have h_dimension := KW.pick (fun K => KW.FF K mg "dimension" KW.s_dimension) KX (by
      refine' KW.ff_mk KX G ?a ?l ?c ?k
      (case a => first | k_is | rfl | kernel_rfl); (case l => first | k_is | rfl | kernel_rfl); (case c => first | k_is | rfl | kernel_rfl); (case k => first | k_is | rfl | kernel_rfl))
    have h_coordinates := KW.pick (fun K => KW.FF K mg "coordinates" KW.s_coordinates) KX (by
      refine' KW.ff_mk KX G ?a ?l ?c ?k
      (case a => first | k_is | rfl | kernel_rfl); (case l => first | k_is | rfl | kernel_rfl); (case c => first | k_is | rfl | kernel_rfl); (case k => first | k_is | rfl | kernel_rfl))
    have h_taken_rows := KW.pick (fun K => KW.FF K mg "taken_rows" KW.s_taken_rows) KX (by
      refine' KW.ff_mk KX G ?a ?l ?c ?k
      (case a => first | k_is | rfl | kernel_rfl); (case l => first | k_is | rfl | kernel_rfl); (case c => first | k_is | rfl | kernel_rfl); (case k => first | k_is | rfl | kernel_rfl))
    have h_keeps_triangles := KW.pick (fun K => KW.FF K mg "keeps_triangles" KW.s_keeps_triangles) KX (by
      refine' KW.ff_mk KX G ?a ?l ?c ?k
      (case a => first | k_is | rfl | kernel_rfl); (case l => first | k_is | rfl | kernel_rfl); (case c => first | k_is | rfl | kernel_rfl); (case k => first | k_is | rfl | kernel_rfl))
    have h_is_apart := KW.pick (fun K => KW.FF K mg "is_apart" KW.s_is_apart) KX (by
      refine' KW.ff_mk KX G ?a ?l ?c ?k
      (case a => first | k_is | rfl | kernel_rfl); (case l => first | k_is | rfl | kernel_rfl); (case c => first | k_is | rfl | kernel_rfl); (case k => first | k_is | rfl | kernel_rfl))
    have h_state := KW.pick (fun K => KW.FF K mg "_law_state" KW.s_state) KX (by
      refine' KW.ff_mk KX G ?a ?l ?c ?k
      (case a => first | k_is | rfl | kernel_rfl); (case l => first | k_is | rfl | kernel_rfl); (case c => first | k_is | rfl | kernel_rfl); (case k => first | k_is | rfl | kernel_rfl))
    have h_take := KW.pick (fun K => KW.FF K mg "_law_take" KW.s_take) KX (by
      refine' KW.ff_mk KX G ?a ?l ?c ?k
      (case a => first | k_is | rfl | kernel_rfl); (case l => first | k_is | rfl | kernel_rfl); (case c => first | k_is | rfl | kernel_rfl); (case k => first | k_is | rfl | kernel_rfl))
    have h_order_of := KW.pick (fun K => KW.FF K mg "_law_order_of" KW.s_order_of) KX (by
      refine' KW.ff_mk KX G ?a ?l ?c ?k
      (case a => first | k_is | rfl | kernel_rfl); (case l => first | k_is | rfl | kernel_rfl); (case c => first | k_is | rfl | kernel_rfl); (case k => first | k_is | rfl | kernel_rfl))
    have h_shortest := KW.pick (fun K => KW.FF K mg "_law_shortest" KW.s_shortest) KX (by
      refine' KW.ff_mk KX G ?a ?l ?c ?k
      (case a => first | k_is | rfl | kernel_rfl); (case l => first | k_is | rfl | kernel_rfl); (case c => first | k_is | rfl | kernel_rfl); (case k => first | k_is | rfl | kernel_rfl))
    have h_web := KW.pick (fun K => KW.FF K mg "_law_web" KW.s_web) KX (by
      refine' KW.ff_mk KX G ?a ?l ?c ?k
      (case a => first | k_is | rfl | kernel_rfl); (case l => first | k_is | rfl | kernel_rfl); (case c => first | k_is | rfl | kernel_rfl); (case k => first | k_is | rfl | kernel_rfl))
    have h_renamed := KW.pick (fun K => KW.FF K mg "_law_renamed" KW.s_renamed) KX (by
      refine' KW.ff_mk KX G ?a ?l ?c ?k
      (case a => first | k_is | rfl | kernel_rfl); (case l => first | k_is | rfl | kernel_rfl); (case c => first | k_is | rfl | kernel_rfl); (case k => first | k_is | rfl | kernel_rfl))
    have h_of_tree := KW.pick (fun K => KW.FF K mg "_law_of_tree" KW.s_of_tree) KX (by
      refine' KW.ff_mk KX G ?a ?l ?c ?k
      (case a => first | k_is | rfl | kernel_rfl); (case l => first | k_is | rfl | kernel_rfl); (case c => first | k_is | rfl | kernel_rfl); (case k => first | k_is | rfl | kernel_rfl))
    have h_grid := KW.pick (fun K => KW.FF K mg "_law_grid" KW.s_grid) KX (by
      refine' KW.ff_mk KX G ?a ?l ?c ?k
      (case a => first | k_is | rfl | kernel_rfl); (case l => first | k_is | rfl | kernel_rfl); (case c => first | k_is | rfl | kernel_rfl); (case k => first | k_is | rfl | kernel_rfl))
    have h_band := KW.pick (fun K => KW.FF K mg "_law_band" KW.s_band) KX (by
      refine' KW.ff_mk KX G ?a ?l ?c ?k
      (case a => first | k_is | rfl | kernel_rfl); (case l => first | k_is | rfl | kernel_rfl); (case c => first | k_is | rfl | kernel_rfl); (case k => first | k_is | rfl | kernel_rfl))
    have h_levels := KW.pick (fun K => KW.FF K mg "_law_levels" KW.s_levels) KX (by
      refine' KW.ff_mk KX G ?a ?l ?c ?k
      (case a => first | k_is | rfl | kernel_rfl); (case l => first | k_is | rfl | kernel_rfl); (case c => first | k_is | rfl | kernel_rfl); (case k => first | k_is | rfl | kernel_rfl))
    have h_rows := KW.pick (fun K => KW.FF K mg "_law_rows" KW.s_rows) KX (by
      refine' KW.ff_mk KX G ?a ?l ?c ?k
      (case a => first | k_is | rfl | kernel_rfl); (case l => first | k_is | rfl | kernel_rfl); (case c => first | k_is | rfl | kernel_rfl); (case k => first | k_is | rfl | kernel_rfl))
    have h_factor := KW.pick (fun K => KW.FF K mg "_law_factor" KW.s_factor) KX (by
      refine' KW.ff_mk KX G ?a ?l ?c ?k
      (case a => first | k_is | rfl | kernel_rfl); (case l => first | k_is | rfl | kernel_rfl); (case c => first | k_is | rfl | kernel_rfl); (case k => first | k_is | rfl | kernel_rfl))
    have h_ratios := KW.pick (fun K => KW.FF K mg "_law_ratios" KW.s_ratios) KX (by
      refine' KW.ff_mk KX G ?a ?l ?c ?k
      (case a => first | k_is | rfl | kernel_rfl); (case l => first | k_is | rfl | kernel_rfl); (case c => first | k_is | rfl | kernel_rfl); (case k => first | k_is | rfl | kernel_rfl))
    have h_is := KW.pick (fun K => KW.FF K mg "_law_is" KW.s_is) KX (by
      refine' KW.ff_mk KX G ?a ?l ?c ?k
      (case a => first | k_is | rfl | kernel_rfl); (case l => first | k_is | rfl | kernel_rfl); (case c => first | k_is | rfl | kernel_rfl); (case k => first | k_is | rfl | kernel_rfl))
    have h_determinant := KW.pick (fun K => KW.FF K mg "_law_determinant" KW.s_determinant) KX (by
      refine' KW.ff_mk KX G ?a ?l ?c ?k
      (case a => first | k_is | rfl | kernel_rfl); (case l => first | k_is | rfl | kernel_rfl); (case c => first | k_is | rfl | kernel_rfl); (case k => first | k_is | rfl | kernel_rfl))
    have h_parts := KW.pick (fun K => KW.FF K mg "_law_parts" KW.s_parts) KX (by
      refine' KW.ff_mk KX G ?a ?l ?c ?k
      (case a => first | k_is | rfl | kernel_rfl); (case l => first | k_is | rfl | kernel_rfl); (case c => first | k_is | rfl | kernel_rfl); (case k => first | k_is | rfl | kernel_rfl))
    have h_twice_gram := KW.pick (fun K => KW.FF K mg "_law_twice_gram" KW.s_twice_gram) KX (by
      refine' KW.ff_mk KX G ?a ?l ?c ?k
      (case a => first | k_is | rfl | kernel_rfl); (case l => first | k_is | rfl | kernel_rfl); (case c => first | k_is | rfl | kernel_rfl); (case k => first | k_is | rfl | kernel_rfl))
    have h_rank := KW.pick (fun K => KW.FF K mg "_law_rank" KW.s_rank) KX (by
      refine' KW.ff_mk KX G ?a ?l ?c ?k
      (case a => first | k_is | rfl | kernel_rfl); (case l => first | k_is | rfl | kernel_rfl); (case c => first | k_is | rfl | kernel_rfl); (case k => first | k_is | rfl | kernel_rfl))
    have h_told_points := KW.pick (fun K => KW.FF K mg "_law_told_points" KW.s_told_points) KX (by
      refine' KW.ff_mk KX G ?a ?l ?c ?k
      (case a => first | k_is | rfl | kernel_rfl); (case l => first | k_is | rfl | kernel_rfl); (case c => first | k_is | rfl | kernel_rfl); (case k => first | k_is | rfl | kernel_rfl))
    have h_root := KW.pick (fun K => KW.FF K mg "_law_root" KW.s_root) KX (by
      refine' KW.ff_mk KX G ?a ?l ?c ?k
      (case a => first | k_is | rfl | kernel_rfl); (case l => first | k_is | rfl | kernel_rfl); (case c => first | k_is | rfl | kernel_rfl); (case k => first | k_is | rfl | kernel_rfl))
    have h_distances := KW.pick (fun K => KW.FF K mg "_law_distances" KW.s_distances) KX (by
      refine' KW.ff_mk KX G ?a ?l ?c ?k
      (case a => first | k_is | rfl | kernel_rfl); (case l => first | k_is | rfl | kernel_rfl); (case c => first | k_is | rfl | kernel_rfl); (case k => first | k_is | rfl | kernel_rfl))
    have h_reason := KW.pick (fun K => KW.FF K mg "_law_reason" KW.s_reason) KX (by
      refine' KW.ff_mk KX G ?a ?l ?c ?k
      (case a => first | k_is | rfl | kernel_rfl); (case l => first | k_is | rfl | kernel_rfl); (case c => first | k_is | rfl | kernel_rfl); (case k => first | k_is | rfl | kernel_rfl))
    have h_sum := KW.pick (fun K => KW.FF K mg "_law_sum" KW.s_sum) KX (by
      refine' KW.ff_mk KX G ?a ?l ?c ?k
      (case a => first | k_is | rfl | kernel_rfl); (case l => first | k_is | rfl | kernel_rfl); (case c => first | k_is | rfl | kernel_rfl); (case k => first | k_is | rfl | kernel_rfl))
    have h_coordinates_hold := KW.pick (fun K => KW.FF K mg "_law_coordinates_hold" KW.s_coordinates_hold) KX (by
      refine' KW.ff_mk KX G ?a ?l ?c ?k
      (case a => first | k_is | rfl | kernel_rfl); (case l => first | k_is | rfl | kernel_rfl); (case c => first | k_is | rfl | kernel_rfl); (case k => first | k_is | rfl | kernel_rfl))
    have h_law := KW.pick (fun K => KW.FF K mg "law" KW.s_law) KX (by
      refine' KW.ff_mk KX G ?a ?l ?c ?k
      (case a => first | k_is | rfl | kernel_rfl); (case l => first | k_is | rfl | kernel_rfl); (case c => first | k_is | rfl | kernel_rfl); (case k => first | k_is | rfl | kernel_rfl))
    obtain ⟨C, R⟩ := hR
    obtain ⟨M, Mt⟩ := hM
    obtain ⟨E, I, RT⟩ := hE
    exact KW.all_mk hmg B R Mt RT h_zero h_is_rational h_as_ratio h_products_of h_gram h_next_place h_eliminated h_squares_of h_is_euclidean h_told_squares h_dimension h_coordinates h_taken_rows h_keeps_triangles h_is_apart h_state h_take h_order_of h_shortest h_web h_renamed h_of_tree h_grid h_band h_levels h_rows h_factor h_ratios h_is h_determinant h_parts h_twice_gram h_rank h_told_points h_root h_distances h_reason h_sum h_coordinates_hold h_law
