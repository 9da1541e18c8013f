import PyProof.Rows.All
import Wide.All
import OpenK.AllK
import Wide.FinOn
import Lean
import PySem.Challenge.RW_nt0211_01
open PySem PySem.W PyProof.Rows
set_option Elab.async false
set_option linter.all false
section
namespace NT
section
local macro_rules | `(tactic| o_head $_) => `(tactic| assumption)
set_option maxRecDepth 100000 in
set_option maxHeartbeats 8000000 in
/-- no more than the writing out of the top's heap: NT.hdA.heap_1 -/
theorem hdA (h : PySem.Challenge.rw_nt0211_01.row.Holds) : PySem.Challenge.rw_nt0211_01.row.Holds := by
  k_head
end
/-- the top's statements that the law's calls come to -/
noncomputable def VV : Program := PySem.W.view PySem.Challenge.rw_nt0211_01.row.toRowW.1 [0, 2, 3, 4, 6, 7, 8, 9, 10, 11, 12, 13, 14, 15, 16, 17, 18, 19, 20, 21, 22, 23, 24, 25, 26, 27, 28, 30, 31, 32, 33, 34, 35, 36, 37, 38, 39, 40, 42, 43, 44, 45, 46, 47, 48, 49, 50, 51, 53, 55, 56, 57, 58, 59, 60, 61, 62, 63, 64, 65]
end NT
end
section
namespace NT
noncomputable abbrev LL : List Str := looseW NT.VV [Str.ofString "REACH", Str.ofString "to_exact_numkinds", Str.ofString "compare_numkinds"]
/-- the call of the def at f upon vs, beside the ledger news, comes back with Post -/
def Does (w : World) (mean : ExcName → Option Value) (mg mb : Str → Option Value) (f : Addr) (k : Nat) (vs : List Value) (news : List (Addr × Obj)) (Post : List (Addr × Obj) → Value → Prop) : Prop :=
  ∀ (dp un : Nat) (gd : Option (List Code)) (cn : Str) (cs : Scope) (a : Addr) (ccd : Value) (cl : List (Str × Addr)) (outer : List Env) (A₀ : Around) (base h₀ : Heap) (L : Addr) (m : Str → Option Value) (s : Shared)
    (Q E : Value → Shared → Prop),
    Below A₀ base outer h₀ → Fr h₀ L s.heap m → (NT.hdA.heap_1 w.params).In h₀ → News h₀ L s.heap news → Top NT.VV LL mean mg mb h₀ → cs.kind = .function → dp + k < recursionLimit → un + 8 * k < cLine →
    (∀ r tl h' tk', Fr h₀ L h' m → News h₀ L h' (tl ++ news) → Post tl r → Q r { s with heap := h', toks := tk' }) →
    wpAny (model Challenge.rw_nt0211_01.row.prog w) (ktrTop dp un gd cn cs L a ccd cl outer) (call (.ref f) vs) Q E s
section
variable {w : World} {mean : ExcName → Option Value} {mg mb : Str → Option Value} {f : Addr} {k : Nat} {vs : List Value} {news : List (Addr × Obj)} {Post : List (Addr × Obj) → Value → Prop}
  {dp un : Nat} {gd : Option (List Code)} {cn : Str} {cs : Scope} {a : Addr} {ccd : Value} {cl : List (Str × Addr)} {outer : List Env} {A₀ : Around} {base h₀ : Heap} {L : Addr} {m : Str → Option Value} {s : Shared}
  {Q E : Value → Shared → Prop}
theorem Does.use (D : Does w mean mg mb f k vs news Post)
    (B : Below A₀ base outer h₀) (F : Fr h₀ L s.heap m) (X : (NT.hdA.heap_1 w.params).In h₀) (N : News h₀ L s.heap news) (T : Top NT.VV LL mean mg mb h₀) (hk : cs.kind = .function) (hd : dp + k < recursionLimit) (hu : un + 8 * k < cLine)
    (ret : ∀ r tl h' tk', Fr h₀ L h' m → News h₀ L h' (tl ++ news) → Post tl r → Q r { s with heap := h', toks := tk' }) :
    wpAny (model Challenge.rw_nt0211_01.row.prog w) (ktrTop dp un gd cn cs L a ccd cl outer) (call (.ref f) vs) Q E s :=
  D dp un gd cn cs a ccd cl outer A₀ base h₀ L m s Q E B F X N T hk hd hu ret
theorem ret_of {r : Value} {h' : Heap} {tk' : Nat} {news' : List (Addr × Obj)} (ret : ∀ r tl h' tk', Fr h₀ L h' m → News h₀ L h' (tl ++ news) → Post tl r → Q r { s with heap := h', toks := tk' })
    (tl : List (Addr × Obj)) (F : Fr h₀ L h' m) (N : News h₀ L h' news') (h1 : ∀ p ∈ tl, p ∈ news') (h2 : ∀ p ∈ news, p ∈ news') (P : Post tl r) : Q r { s with heap := h', toks := tk' } :=
  ret r tl h' tk' F (fun p hp => N p ((List.mem_append.mp hp).elim (h1 p) (h2 p))) P
theorem ret_all {r : Value} {h' : Heap} {tk' : Nat} {news' : List (Addr × Obj)} (ret : ∀ r tl h' tk', Fr h₀ L h' m → News h₀ L h' (tl ++ news) → Post tl r → Q r { s with heap := h', toks := tk' })
    (F : Fr h₀ L h' m) (N : News h₀ L h' news') (h2 : ∀ p ∈ news, p ∈ news') (P : Post news' r) : Q r { s with heap := h', toks := tk' } := ret_of ret news' F N (fun _ h => h) h2 P
end
def Halt (P : Prop) : Prop := P
theorem Halt.out {P : Prop} (h : Halt P) : P := h
theorem Halt.put {P : Prop} (h : P) : Halt P := h
end NT
namespace NT
abbrev tupOf (vs : List Value) : Obj := { cls := .type "tuple", data := .seq vs.toArray }
abbrev lisOf (vs : List Value) : Obj := { cls := .type "list", data := .seq vs.toArray }
/-- a number of the program's: an int, a Ratio, a Real -/
inductive Num where
  | whole (n : Int)
  | ratio (t b : Int)
  | real (m e : Int)
/-- the ledger bears the number at v -/
inductive NumIn (news : List (Addr × Obj)) : Value → Num → Prop where
  | whole {n : Int} {u : Tok} : NumIn news (.int n u) (.whole n)
  | ratio {x dx : Addr} {t b h1 h2 : Int} {t1 u1 t2 u2 : Tok} : (x, instObj 264 dx) ∈ news → (dx, dictOf [⟨h1, .str "top" t1, .int t u1⟩, ⟨h2, .str "bottom" t2, .int b u2⟩] 2) ∈ news → NumIn news (.ref x) (.ratio t b)
  | real {x dx : Addr} {m e h1 h2 : Int} {t1 u1 t2 u2 : Tok} : (x, instObj 96 dx) ∈ news → (dx, dictOf [⟨h1, .str "mantissa" t1, .int m u1⟩, ⟨h2, .str "exponent" t2, .int e u2⟩] 2) ∈ news → NumIn news (.ref x) (.real m e)
theorem NumIn.mono {news news' : List (Addr × Obj)} {v : Value} {x : Num} (h : NumIn news v x) (hs : ∀ p ∈ news, p ∈ news') : NumIn news' v x := by
  cases h with
  | whole => exact .whole
  | ratio a b => exact .ratio (hs _ a) (hs _ b)
  | real a b => exact .real (hs _ a) (hs _ b)
def Num.isReal : Num → Bool
  | .real _ _ => true
  | _ => false
/-- an exact number's two sides -/
def Num.top : Num → Int
  | .whole n => n
  | .ratio t _ => t
  | .real _ _ => 0
def Num.bot : Num → Int
  | .whole _ => 1
  | .ratio _ b => b
  | .real _ _ => 1
/-- the fraction of any number -/
def Num.fT : Num → Int
  | .whole n => n
  | .ratio t _ => t
  | .real m e => if 0 ≤ e then m * 2 ^ e.toNat else m
def Num.fB : Num → Int
  | .whole _ => 1
  | .ratio _ b => b
  | .real _ e => if 0 ≤ e then 1 else 2 ^ (0 - e).toNat
/-- what the law builds -/
def NumOk (p : Int) : Num → Prop
  | .whole n => -31 ≤ n ∧ n ≤ 31
  | .ratio t b => -31 ≤ t ∧ t ≤ 31 ∧ 2 ≤ b ∧ b ≤ 15 ∧ Int.gcd t b = 1
  | .real m e => (m = 0 ∧ e = 0) ∨ (m % 2 = 1 ∧ m.natAbs < 2 ^ p.toNat ∧ -20 ≤ e ∧ e ≤ 15)
def mkEx (t b : Int) : Num := if b = 1 then .whole t else .ratio t b
def Num.ex : Num → Num
  | .real m e => mkEx ((Num.real m e).fT / (Int.gcd (Num.real m e).fT (Num.real m e).fB : Int)) ((Num.real m e).fB / (Int.gcd (Num.real m e).fT (Num.real m e).fB : Int))
  | x => x
def less (x y : Num) : Int := (x.fT * y.fB - y.fT * x.fB).sign
end NT
end
section
namespace NT
theorem low0 (top bottom : Int) (hb : 0 < bottom) : 0 ≤ (if top < 0 then -top else top) ∧ 0 ≤ bottom ∧ Int.gcd (if top < 0 then -top else top) bottom = Int.gcd top bottom := by
  refine ⟨by split <;> lia, by lia, ?_⟩
  split
  · exact Int.neg_gcd
  · rfl
theorem low1 {one other : Int} {G : Nat} (_h1 : 0 ≤ one) (h2 : 0 ≤ other) (h3 : Int.gcd one other = G) (hn : other ≠ 0) : 0 ≤ other ∧ 0 ≤ one.fmod other ∧ Int.gcd other (one.fmod other) = G := by
  refine ⟨h2, ?_, ?_⟩
  · rw [Int.fmod_eq_emod_of_nonneg _ h2]; exact Int.emod_nonneg _ hn
  · rw [Int.fmod_eq_emod_of_nonneg _ h2, ← h3, Int.emod_def, Int.gcd_sub_mul_left_right, Int.gcd_comm]
theorem low2 {one other : Int} {G : Nat} (_h1 : 0 ≤ one) (h2 : 0 ≤ other) (_h3 : Int.gcd one other = G) (hn : other ≠ 0) : (one.fmod other).toNat < other.toNat := by
  have h0 : 0 < other := by lia
  have := Int.emod_lt_of_pos one h0
  rw [Int.fmod_eq_emod_of_nonneg _ h2]; lia
theorem low3 {one other : Int} {G : Nat} (h3 : Int.gcd one other = G) (h1 : 0 ≤ one) (hn : other = 0) : one = G := by
  subst hn
  rw [Int.gcd_zero_right] at h3; lia
theorem gcdPos {top bottom : Int} (hb : 0 < bottom) : (0 : Int) < Int.gcd top bottom ∧ (Int.gcd top bottom : Int) ≤ bottom := by
  have h1 := Int.gcd_pos_of_ne_zero_right top (b := bottom) (by lia)
  have h2 := Int.gcd_le_right top hb
  lia

-- bit lengths
theorem intBits_abs (n : Int) : Builtin.Int.intBits (if n < 0 then -n else n) = Builtin.Int.intBits n := by
  split
  · unfold Builtin.Int.intBits
    rw [Int.natAbs_neg]
    have h1 : (-n == 0) = false := by simp; lia
    have h2 : (n == 0) = false := by simp; lia
    rw [h1, h2]
  · rfl
theorem intBits_pos {n : Int} (h : n ≠ 0) : 2 ^ (Builtin.Int.intBits n - 1) ≤ n.natAbs ∧ n.natAbs < 2 ^ Builtin.Int.intBits n ∧ 1 ≤ Builtin.Int.intBits n := by
  have h2 : (n == 0) = false := by simpa using h
  have h3 : n.natAbs ≠ 0 := by lia
  unfold Builtin.Int.intBits
  rw [h2]
  simp only [Bool.false_eq_true, if_false]
  refine ⟨?_, ?_, by lia⟩
  · rw [Nat.add_sub_cancel]; exact Nat.log2_self_le h3
  · exact Nat.lt_log2_self
theorem intBits_zero : Builtin.Int.intBits 0 = 0 := rfl
theorem intBits_eq {n : Int} {k : Nat} (h1 : 2 ^ k ≤ n.natAbs) (h2 : n.natAbs < 2 ^ (k + 1)) : Builtin.Int.intBits n = k + 1 := by
  have h0 : n ≠ 0 := by
    intro h; subst h
    have := Nat.two_pow_pos k
    simp at h1
  have h3 : n.natAbs ≠ 0 := by lia
  have h4 : (n == 0) = false := by simpa using h0
  unfold Builtin.Int.intBits
  rw [h4]
  simp only [Bool.false_eq_true, if_false]
  have := (Nat.log2_eq_iff h3).mpr ⟨h1, h2⟩
  lia
theorem intBits_le {n : Int} {k : Nat} (h2 : n.natAbs < 2 ^ k) : Builtin.Int.intBits n ≤ k := by
  by_cases h0 : n = 0
  · subst h0; rw [intBits_zero]; lia
  · have h3 : n.natAbs ≠ 0 := by lia
    have h4 : (n == 0) = false := by simpa using h0
    unfold Builtin.Int.intBits
    rw [h4]
    simp only [Bool.false_eq_true, if_false]
    have := (Nat.log2_lt h3).mpr h2
    lia
theorem sow_eq (n : Int) : b2i (decide (0 < n)) - b2i (decide (n < 0)) = n.sign := by
  rcases Int.lt_trichotomy n 0 with h | h | h
  · rw [Int.sign_eq_neg_one_of_neg h, decide_eq_false (by lia), decide_eq_true h]; rfl
  · subst h; rfl
  · rw [Int.sign_eq_one_of_pos h, decide_eq_true h, decide_eq_false (by lia)]; rfl
theorem pow_cast (k : Nat) : ((2 ^ k : Nat) : Int) = (2 : Int) ^ k := kbt_cast k
theorem pow_posI (k : Nat) : (0 : Int) < 2 ^ k := kbt_pos k
theorem natAbs_pow (k : Nat) : ((2 : Int) ^ k).natAbs = 2 ^ k := by
  rw [← pow_cast]; exact Int.natAbs_natCast _
theorem zeros_eq {n a : Int} {k : Nat} (h : n = 2 ^ k * (2 * a + 1)) : (Builtin.Int.intBits (Builtin.bitAnd n (0 - n)) : Int) - 1 = k := by
  subst h
  rw [Int.zero_sub, kbt_low, intBits_eq (k := k)]
  · lia
  · rw [natAbs_pow]; exact Nat.le_refl _
  · rw [natAbs_pow, Nat.pow_succ]; have := Nat.two_pow_pos k; lia
theorem odd_part : ∀ (N : Nat) (n : Int), n.natAbs ≤ N → n ≠ 0 → ∃ (k : Nat) (a : Int), n = 2 ^ k * (2 * a + 1) := by
  intro N
  induction N with
  | zero => intro n h h0; lia
  | succ N ih =>
    intro n h h0
    by_cases hp : n % 2 = 1
    · exact ⟨0, n / 2, by rw [Int.pow_zero, Int.one_mul]; lia⟩
    · obtain ⟨k, a, e⟩ := ih (n / 2) (by lia) (by lia)
      refine ⟨k + 1, a, ?_⟩
      rw [Int.pow_succ, Int.mul_comm (2 ^ k) 2, Int.mul_assoc, ← e]; lia
theorem oddPart {n : Int} (h : n ≠ 0) : ∃ (k : Nat) (a : Int), n = 2 ^ k * (2 * a + 1) := odd_part _ n (Nat.le_refl _) h
/-- what is left of m, e when the twos are taken out -/
def NormOf (m e m' e' : Int) : Prop := (m = 0 ∧ m' = 0 ∧ e' = 0) ∨ (m' % 2 = 1 ∧ ∃ k : Nat, m = m' * 2 ^ k ∧ e' = e + k)
theorem norm_shift {n a : Int} {k : Nat} (h : n = 2 ^ k * (2 * a + 1)) : n.fdiv (2 ^ (k : Int).toNat) = 2 * a + 1 := by
  subst h
  rw [Int.toNat_natCast, Int.mul_comm]
  exact kbt_q1 _ _
theorem norm_of {n a e : Int} {k : Nat} (h : n = 2 ^ k * (2 * a + 1)) : NormOf n e (2 * a + 1) (e + k) :=
  .inr ⟨by lia, k, by rw [h, Int.mul_comm], rfl⟩

/-- R is the whole number nearest to n / d, the even one of two -/
def IsRne (n d R : Int) : Prop := 2 * (R * d) ≤ 2 * n + d ∧ 2 * n ≤ 2 * (R * d) + d ∧ (2 * (R * d) = 2 * n + d → R % 2 = 0) ∧ (2 * n = 2 * (R * d) + d → R % 2 = 0)
theorem mul_lt_pos {a b p : Int} (hp : 0 < p) (h : a * p ≤ b * p) : a ≤ b := Int.le_of_mul_le_mul_right h hp
theorem rne_mono {n1 d1 R1 n2 d2 R2 : Int} (h1 : IsRne n1 d1 R1) (h2 : IsRne n2 d2 R2) (p1 : 0 < d1) (p2 : 0 < d2) (h : n1 * d2 ≤ n2 * d1) : R1 ≤ R2 := by
  obtain ⟨a1, _, c1, _⟩ := h1
  obtain ⟨_, b2, _, e2⟩ := h2
  have A := Int.mul_le_mul_of_nonneg_right a1 (Int.le_of_lt p2)
  have B := Int.mul_le_mul_of_nonneg_right b2 (Int.le_of_lt p1)
  have P := Int.mul_pos p1 p2
  have k1 : R1 * (d1 * d2) ≤ (R2 + 1) * (d1 * d2) := by grind
  have k2 := mul_lt_pos P k1
  by_cases hc : R1 ≤ R2
  · exact hc
  · have e : R1 = R2 + 1 := by lia
    subst e
    have q1 : 2 * ((R2 + 1) * d1) = 2 * n1 + d1 := by
      refine Int.le_antisymm a1 ?_
      refine mul_lt_pos p2 ?_
      grind
    have q2 : 2 * n2 = 2 * (R2 * d2) + d2 := by
      refine Int.le_antisymm b2 ?_
      refine mul_lt_pos p1 ?_
      grind
    have := c1 q1
    have := e2 q2
    lia
theorem rne_scale {n1 d1 n2 d2 R : Int} (h : IsRne n1 d1 R) (p1 : 0 < d1) (p2 : 0 < d2) (e : n1 * d2 = n2 * d1) : IsRne n2 d2 R := by
  obtain ⟨a, b, c, d⟩ := h
  have A := Int.mul_le_mul_of_nonneg_right a (Int.le_of_lt p2)
  have B := Int.mul_le_mul_of_nonneg_right b (Int.le_of_lt p2)
  refine ⟨?_, ?_, fun q => c ?_, fun q => d ?_⟩
  · refine mul_lt_pos p1 ?_; grind
  · refine mul_lt_pos p1 ?_; grind
  · refine Int.eq_of_mul_eq_mul_right (Int.ne_of_gt p2) ?_
    have := congrArg (· * d1) q
    grind
  · refine Int.eq_of_mul_eq_mul_right (Int.ne_of_gt p2) ?_
    have := congrArg (· * d1) q
    grind
theorem rne_exact {n d R : Int} (p : 0 < d) (h : n = R * d) : IsRne n d R := by
  subst h
  refine ⟨by lia, by lia, fun q => ?_, fun q => ?_⟩ <;> lia
theorem rne_lo {n d R k : Int} (h : IsRne n d R) (p : 0 < d) (hk : k * d ≤ n) : k ≤ R :=
  rne_mono (rne_exact (R := k) (d := d) p rfl) h p p (by grind [Int.mul_le_mul_of_nonneg_right hk (Int.le_of_lt p)])
theorem rne_hi {n d R k : Int} (h : IsRne n d R) (p : 0 < d) (hk : n ≤ k * d) : R ≤ k :=
  rne_mono h (rne_exact (R := k) (d := d) p rfl) p p (by grind [Int.mul_le_mul_of_nonneg_right hk (Int.le_of_lt p)])
theorem nsCore {n d half : Int} (hd : d = 2 * half) (hh : 0 < half) :
    (half < n % d → IsRne n d (n / d + 1)) ∧ (n % d = half → n / d % 2 = 1 → IsRne n d (n / d + 1)) ∧ (n % d = half → ¬ n / d % 2 = 1 → IsRne n d (n / d)) ∧ (n % d < half → IsRne n d (n / d)) := by
  have h1 := Int.emod_nonneg n (show d ≠ 0 by lia)
  have h2 := Int.emod_lt_of_pos n (show 0 < d by lia)
  have h3 := Int.mul_ediv_add_emod n d
  have h4 : (n / d + 1) * d = d * (n / d) + d := by grind
  have h5 : n / d * d = d * (n / d) := Int.mul_comm _ _
  refine ⟨fun h => ?_, fun h hk => ?_, fun h hk => ?_, fun h => ?_⟩ <;> unfold IsRne <;> first | rw [h4] | rw [h5]
  · refine ⟨by lia, by lia, fun q => ?_, fun q => ?_⟩ <;> lia
  · refine ⟨by lia, by lia, fun q => ?_, fun q => ?_⟩ <;> lia
  · refine ⟨by lia, by lia, fun q => ?_, fun q => ?_⟩ <;> lia
  · refine ⟨by lia, by lia, fun q => ?_, fun q => ?_⟩ <;> lia
theorem bitAnd_one (x : Int) : Builtin.bitAnd x 1 = x % 2 := kbt_mask x 1
theorem nsHalf {gone : Int} (hg : 1 ≤ gone) : (2 : Int) ^ gone.toNat = 2 * 2 ^ (gone - 1).toNat := by
  have : gone.toNat = (gone - 1).toNat + 1 := by lia
  rw [this, Int.pow_succ]; lia
section
variable {n gone : Int} (hg : 1 ≤ gone)
include hg
theorem ns1 (h : 1 * 2 ^ (gone - 1).toNat < Builtin.bitAnd n (1 * 2 ^ gone.toNat - 1)) : IsRne n (2 ^ gone.toNat) (n.fdiv (2 ^ gone.toNat) + 1) := by
  rw [Int.one_mul, Int.one_mul, kbt_mask] at h
  rw [Int.fdiv_eq_ediv_of_nonneg _ (Int.le_of_lt (pow_posI _))]
  exact (nsCore (nsHalf hg) (pow_posI _)).1 h
theorem ns2 (h : Builtin.bitAnd n (1 * 2 ^ gone.toNat - 1) = 1 * 2 ^ (gone - 1).toNat) (h2 : Builtin.bitAnd (n.fdiv (2 ^ gone.toNat)) 1 = 1) : IsRne n (2 ^ gone.toNat) (n.fdiv (2 ^ gone.toNat) + 1) := by
  rw [Int.one_mul, Int.one_mul, kbt_mask] at h
  rw [bitAnd_one] at h2
  rw [Int.fdiv_eq_ediv_of_nonneg _ (Int.le_of_lt (pow_posI _))] at h2 ⊢
  exact (nsCore (nsHalf hg) (pow_posI _)).2.1 h h2
theorem ns3 (h : Builtin.bitAnd n (1 * 2 ^ gone.toNat - 1) = 1 * 2 ^ (gone - 1).toNat) (h2 : Builtin.bitAnd (n.fdiv (2 ^ gone.toNat)) 1 ≠ 1) : IsRne n (2 ^ gone.toNat) (n.fdiv (2 ^ gone.toNat)) := by
  rw [Int.one_mul, Int.one_mul, kbt_mask] at h
  rw [bitAnd_one] at h2
  rw [Int.fdiv_eq_ediv_of_nonneg _ (Int.le_of_lt (pow_posI _))] at h2 ⊢
  exact (nsCore (nsHalf hg) (pow_posI _)).2.2.1 h h2
theorem ns4 (h : ¬ 1 * 2 ^ (gone - 1).toNat < Builtin.bitAnd n (1 * 2 ^ gone.toNat - 1)) (h2 : Builtin.bitAnd n (1 * 2 ^ gone.toNat - 1) ≠ 1 * 2 ^ (gone - 1).toNat) : IsRne n (2 ^ gone.toNat) (n.fdiv (2 ^ gone.toNat)) := by
  rw [Int.one_mul, Int.one_mul, kbt_mask] at h h2
  rw [Int.fdiv_eq_ediv_of_nonneg _ (Int.le_of_lt (pow_posI _))]
  exact (nsCore (nsHalf hg) (pow_posI _)).2.2.2 (by lia)
end
theorem mulSignOk (a b : Int) : IntMulOk a.sign b := by
  refine IntMulOk.of_left (intBits_le_64 ?_ ?_) <;> (rcases Int.lt_trichotomy a 0 with h | h | h <;> simp [Int.sign_eq_neg_one_of_neg, Int.sign_eq_one_of_pos, h])
theorem signMul {m R c : Int} (h0 : 0 ≤ R) (h : R ≤ c) : -c ≤ m.sign * R ∧ m.sign * R ≤ c := by
  rcases Int.lt_trichotomy m 0 with h1 | h1 | h1
  · rw [Int.sign_eq_neg_one_of_neg h1]; lia
  · subst h1; rw [Int.sign_zero]; lia
  · rw [Int.sign_eq_one_of_pos h1]; lia
theorem rne_bnd {n R : Int} {g : Nat} (h : IsRne n (2 ^ g) R) (h0 : 0 ≤ n) : 0 ≤ R ∧ R ≤ n := by
  have hp := pow_posI g
  refine ⟨rne_lo h hp (by rw [Int.zero_mul]; exact h0), rne_hi h hp ?_⟩
  have := Int.mul_le_mul_of_nonneg_left (show (1 : Int) ≤ 2 ^ g by lia) h0
  lia
theorem bits_small {n : Int} (h1 : -1152921504606846976 ≤ n) (h2 : n ≤ 1152921504606846976) : Builtin.Int.intBits n ≤ 61 := intBits_le (by lia)
end NT
namespace NT
theorem rdShift {p t b : Int} (hp1 : 2 ≤ p) (hp2 : p ≤ 8) (ht1 : -31 ≤ t) (ht2 : t ≤ 31) (hb1 : 1 ≤ b) (hb2 : b ≤ 15) :
    0 ≤ p + 2 + (Builtin.Int.intBits b : Int) - (Builtin.Int.intBits t : Int) ∧ p + 2 + (Builtin.Int.intBits b : Int) - (Builtin.Int.intBits t : Int) ≤ 14 := by
  have h1 : Builtin.Int.intBits t ≤ 5 := intBits_le (by lia)
  have h2 : Builtin.Int.intBits b ≤ 4 := intBits_le (by lia)
  have h3 := (intBits_pos (n := b) (by lia)).2.2
  lia
end NT
end
section
namespace NT
theorem rne_sticky {X b K r H R : Int} (hb : 0 < b) (hX : X = b * K + r) (hr0 : 0 ≤ r) (hrb : r < b) (hH : H % 2 = 0) (h : IsRne (2 * K + (if (r != 0) = true then 1 else 0)) (2 * H) R) : IsRne (2 * X) ((2 * H) * b) R := by
  obtain ⟨h1, h2, h3, h4⟩ := h
  have eW : R * (2 * H) = 2 * (R * H) := by grind
  rw [eW] at h1 h2 h3 h4
  have hRH : (R * H) % 2 = 0 := by
    obtain ⟨c, hc⟩ : ∃ c, H = 2 * c := ⟨H / 2, by grind⟩
    subst hc
    have : R * (2 * c) = 2 * (R * c) := by grind
    grind
  have e1 : R * (2 * H * b) = (2 * (R * H)) * b := by grind
  unfold IsRne
  rw [e1]
  generalize R * H = W at *
  -- lower: (2W - H) ≤ 2K
  by_cases hr : r = 0
  · subst hr
    simp only [bne_self_eq_false, Bool.false_eq_true, if_false, Int.add_zero] at h1 h2 h3 h4
    subst hX
    have A : 2 * W - H ≤ 2 * K := by grind
    have B : 2 * K ≤ 2 * W + H := by grind
    have A' := Int.mul_le_mul_of_nonneg_right A (Int.le_of_lt hb)
    have B' := Int.mul_le_mul_of_nonneg_right B (Int.le_of_lt hb)
    refine ⟨by grind, by grind, fun q => h3 ?_, fun q => h4 ?_⟩
    · refine Int.eq_of_mul_eq_mul_right (Int.ne_of_gt hb) ?_
      grind
    · refine Int.eq_of_mul_eq_mul_right (Int.ne_of_gt hb) ?_
      grind
  · have hb' : (r != 0) = true := by simpa using hr
    rw [if_pos hb'] at h1 h2 h3 h4
    have A : 2 * W - H ≤ 2 * K := by grind
    have B : 2 * K + 2 ≤ 2 * W + H := by grind
    have A' := Int.mul_le_mul_of_nonneg_right A (Int.le_of_lt hb)
    have B' := Int.mul_le_mul_of_nonneg_right B (Int.le_of_lt hb)
    subst hX
    refine ⟨by grind, by grind, fun q => ?_, fun q => ?_⟩ <;> (exfalso; grind)
/-- m * 2 ^ e is the number of p bits nearest to t / b -/
def NearSpec (p t b m e : Int) : Prop := (t = 0 ∧ m = 0 ∧ e = 0) ∨ (t ≠ 0 ∧ m % 2 = 1 ∧ ∃ (S : Nat) (R : Int) (k : Nat),
  2 ^ (p - 1).toNat * (2 ^ S * b) ≤ (t.natAbs : Int) * 2 ^ 64 ∧ (t.natAbs : Int) * 2 ^ 64 < 2 ^ p.toNat * (2 ^ S * b) ∧ IsRne ((t.natAbs : Int) * 2 ^ 64) (2 ^ S * b) R ∧ t.sign * R = m * 2 ^ k ∧ e + 64 = S + k)
theorem ite_natAbs (t : Int) : (if t < 0 then -t else t) = (t.natAbs : Int) := by split <;> grind
theorem powI_add (a b : Nat) : (2 : Int) ^ (a + b) = 2 ^ a * 2 ^ b := Int.pow_add ..
theorem powI_le {a b : Nat} (h : a ≤ b) : (2 : Int) ^ a ≤ 2 ^ b := by
  rw [← pow_cast, ← pow_cast]
  exact Int.ofNat_le.mpr (Nat.pow_le_pow_right (by decide) h)
/-- the size of the kept quotient -/
theorem rdK0 {p t b : Int} (h0 : t ≠ 0) (hp1 : 2 ≤ p) (hp2 : p ≤ 8) (ht1 : -31 ≤ t) (ht2 : t ≤ 31) (hb1 : 1 ≤ b) (hb2 : b ≤ 15) :
    2 ^ (p + 1).toNat ≤ ((t.natAbs : Int) * 2 ^ (p + 2 + (Builtin.Int.intBits b : Int) - (Builtin.Int.intBits t : Int)).toNat) / b ∧
    ((t.natAbs : Int) * 2 ^ (p + 2 + (Builtin.Int.intBits b : Int) - (Builtin.Int.intBits t : Int)).toNat) / b < 2 ^ (p + 3).toNat := by
  have ⟨hs1, hs2⟩ := rdShift hp1 hp2 ht1 ht2 hb1 hb2
  obtain ⟨a1, a2, a3⟩ := intBits_pos h0
  obtain ⟨c1, c2, c3⟩ := intBits_pos (n := b) (by grind)
  have hb : 0 < b := by grind
  generalize Builtin.Int.intBits t = st at *
  generalize Builtin.Int.intBits b = sb at *
  generalize hsh : (p + 2 + (sb : Int) - (st : Int)).toNat = sh at *
  have e1 : (p + 1).toNat + sb = (st - 1) + sh := by grind
  have e2 : (p + 3).toNat + (sb - 1) = st + sh := by grind
  have f1 := congrArg (fun k => (2 : Int) ^ k) e1
  have f2 := congrArg (fun k => (2 : Int) ^ k) e2
  simp only [powI_add] at f1 f2
  have a1' : (2 : Int) ^ (st - 1) ≤ (t.natAbs : Int) := by rw [← pow_cast]; exact Int.ofNat_le.mpr a1
  have a2' : (t.natAbs : Int) + 1 ≤ 2 ^ st := by rw [← pow_cast]; exact Int.ofNat_le.mpr a2
  have c1' : (2 : Int) ^ (sb - 1) ≤ b := by
    have : ((2 ^ (sb - 1) : Nat) : Int) ≤ (b.natAbs : Int) := Int.ofNat_le.mpr c1
    rw [pow_cast] at this; grind
  have c2' : b + 1 ≤ 2 ^ sb := by
    have : ((b.natAbs + 1 : Nat) : Int) ≤ ((2 ^ sb : Nat) : Int) := Int.ofNat_le.mpr c2
    rw [pow_cast] at this; grind
  have P1 := pow_posI (p + 1).toNat
  have P3 := pow_posI (p + 3).toNat
  have Ps := pow_posI sh
  constructor
  · refine Int.le_ediv_of_mul_le hb ?_
    have k1 := Int.mul_le_mul_of_nonneg_left (show b ≤ 2 ^ sb by grind) (Int.le_of_lt P1)
    have k2 := Int.mul_le_mul_of_nonneg_right a1' (Int.le_of_lt Ps)
    grind
  · refine Int.ediv_lt_of_lt_mul hb ?_
    have k1 := Int.mul_le_mul_of_nonneg_left c1' (Int.le_of_lt P3)
    have k2 := Int.mul_le_mul_of_nonneg_right a2' (Int.le_of_lt Ps)
    have k3 : ((t.natAbs : Int) + 1) * 2 ^ sh = (t.natAbs : Int) * 2 ^ sh + 2 ^ sh := by grind
    grind
section
variable {p t b : Int} (h0 : t ≠ 0) (hp1 : 2 ≤ p) (hp2 : p ≤ 8) (ht1 : -31 ≤ t) (ht2 : t ≤ 31) (hb1 : 1 ≤ b) (hb2 : b ≤ 15)
include h0 hp1 hp2 ht1 ht2 hb1 hb2
theorem rdA : 2 ^ (p + 1).toNat ≤ ((if t < 0 then -t else t) * 2 ^ (p + 2 + (Builtin.Int.intBits b : Int) - (Builtin.Int.intBits t : Int)).toNat).fdiv b ∧
    ((if t < 0 then -t else t) * 2 ^ (p + 2 + (Builtin.Int.intBits b : Int) - (Builtin.Int.intBits t : Int)).toNat).fdiv b < 2 ^ (p + 3).toNat := by
  rw [ite_natAbs, Int.fdiv_eq_ediv_of_nonneg _ (by grind)]
  exact rdK0 h0 hp1 hp2 ht1 ht2 hb1 hb2
theorem rdA' : 0 ≤ ((if t < 0 then -t else t) * 2 ^ (p + 2 + (Builtin.Int.intBits b : Int) - (Builtin.Int.intBits t : Int)).toNat).fdiv b ∧
    ((if t < 0 then -t else t) * 2 ^ (p + 2 + (Builtin.Int.intBits b : Int) - (Builtin.Int.intBits t : Int)).toNat).fdiv b < 10000000 := by
  have ⟨h1, h2⟩ := rdA h0 hp1 hp2 ht1 ht2 hb1 hb2
  have h3 := pow_posI (p + 1).toNat
  have h4 := powI_le (show (p + 3).toNat ≤ 11 by grind)
  grind
end
theorem sign_cases {t : Int} (h : t ≠ 0) : t.sign = 1 ∨ t.sign = -1 := by
  rcases Int.lt_trichotomy t 0 with h1 | h1 | h1
  · exact .inr (Int.sign_eq_neg_one_of_neg h1)
  · exact absurd h1 h
  · exact .inl (Int.sign_eq_one_of_pos h1)
theorem sgnMul {t M : Int} (h : t ≠ 0) (hM : 0 < M) : (t.sign * M).natAbs = M.natAbs ∧ (t.sign * M).sign = t.sign ∧ (if t.sign * M < 0 then -(t.sign * M) else t.sign * M) = M := by
  rcases sign_cases h with e | e <;> rw [e]
  · rw [Int.one_mul, Int.sign_eq_one_of_pos hM]; refine ⟨rfl, rfl, ?_⟩; split <;> grind
  · rw [Int.neg_mul, Int.one_mul, Int.sign_eq_neg_one_of_neg (by grind)]; refine ⟨by grind, rfl, ?_⟩; split <;> grind
theorem intBits_natAbs {a b : Int} (h : a.natAbs = b.natAbs) : Builtin.Int.intBits a = Builtin.Int.intBits b := by
  unfold Builtin.Int.intBits
  rw [h]
  by_cases ha : a = 0
  · have hb : b = 0 := by grind
    rw [ha, hb]
  · have h1 : (a == 0) = false := by simpa using ha
    have h2 : (b == 0) = false := by simp; grind
    rw [h1, h2]
section
variable {p t b K r : Int} (h0 : t ≠ 0) (hp1 : 2 ≤ p) (hp2 : p ≤ 8) (hK1 : 2 ^ (p + 1).toNat ≤ K) (hK2 : K < 2 ^ (p + 3).toNat)
include h0 hp1 hp2 hK1 hK2
theorem rdB : 2 ≤ (Builtin.Int.intBits (t.sign * (2 * K + (if (r != 0) = true then 1 else 0))) : Int) - p ∧ (Builtin.Int.intBits (t.sign * (2 * K + (if (r != 0) = true then 1 else 0))) : Int) - p ≤ 5 ∧
    -10000 ≤ t.sign * (2 * K + (if (r != 0) = true then 1 else 0)) ∧ t.sign * (2 * K + (if (r != 0) = true then 1 else 0)) ≤ 10000 := by
  have hst : ∃ s : Int, (if (r != 0) = true then (1 : Int) else 0) = s ∧ 0 ≤ s ∧ s ≤ 1 := ⟨_, rfl, by split <;> grind, by split <;> grind⟩
  obtain ⟨s, e, s0, s1⟩ := hst
  rw [e]
  have P1 := pow_posI (p + 1).toNat
  have P3 := powI_le (show (p + 3).toNat ≤ 11 by grind)
  have q1 : (2 : Int) ^ ((p + 1).toNat + 1) = 2 * 2 ^ (p + 1).toNat := by rw [Int.pow_succ]; grind
  have q3 : (2 : Int) ^ ((p + 3).toNat + 1) = 2 * 2 ^ (p + 3).toNat := by rw [Int.pow_succ]; grind
  have hM : 0 < 2 * K + s := by grind
  rw [intBits_natAbs (sgnMul h0 hM).1]
  have lo : (p + 1).toNat + 1 < Builtin.Int.intBits (2 * K + s) := by
    obtain ⟨a1, a2, a3⟩ := intBits_pos (n := 2 * K + s) (by grind)
    by_cases hc : (p + 1).toNat + 1 < Builtin.Int.intBits (2 * K + s)
    · exact hc
    · exfalso
      have : ((2 * K + s).natAbs : Int) < ((2 ^ Builtin.Int.intBits (2 * K + s) : Nat) : Int) := Int.ofNat_lt.mpr a2
      rw [pow_cast] at this
      have := powI_le (show Builtin.Int.intBits (2 * K + s) ≤ (p + 1).toNat + 1 by grind)
      grind
  have hi : Builtin.Int.intBits (2 * K + s) ≤ (p + 3).toNat + 1 := by
    refine intBits_le ?_
    have : ((2 * K + s).natAbs : Int) < ((2 ^ ((p + 3).toNat + 1) : Nat) : Int) := by rw [pow_cast]; grind
    exact Int.ofNat_lt.mp this
  refine ⟨by grind, by grind, ?_, ?_⟩ <;> (rcases sign_cases h0 with e | e <;> rw [e] <;> grind)
theorem rdC {R m e : Int} {sh : Nat} (hb : 0 < b) (hX : (t.natAbs : Int) * 2 ^ sh = b * K + r) (hr0 : 0 ≤ r) (hrb : r < b) (hsh : sh ≤ 14)
    (hR : IsRne (if t.sign * (2 * K + (if (r != 0) = true then 1 else 0)) < 0 then -(t.sign * (2 * K + (if (r != 0) = true then 1 else 0))) else t.sign * (2 * K + (if (r != 0) = true then 1 else 0)))
      (2 ^ ((Builtin.Int.intBits (t.sign * (2 * K + (if (r != 0) = true then 1 else 0))) : Int) - p).toNat) R)
    (hN : NormOf ((t.sign * (2 * K + (if (r != 0) = true then 1 else 0))).sign * R) (0 - (sh : Int) - 1 + ((Builtin.Int.intBits (t.sign * (2 * K + (if (r != 0) = true then 1 else 0))) : Int) - p)) m e) : NearSpec p t b m e := by
  have ⟨g2, g5, _, _⟩ := rdB (r := r) h0 hp1 hp2 hK1 hK2
  have P1 := pow_posI (p + 1).toNat
  have hs01 : 0 ≤ (if (r != 0) = true then (1 : Int) else 0) ∧ (if (r != 0) = true then (1 : Int) else 0) ≤ 1 := by split <;> grind
  have hM : 0 < 2 * K + (if (r != 0) = true then 1 else 0) := by grind
  have ⟨z1, z2, z3⟩ := sgnMul h0 hM
  rw [z3] at hR
  rw [z2] at hN
  rw [intBits_natAbs z1] at g2 g5 hR hN
  obtain ⟨a1, a2, a3⟩ := intBits_pos (n := 2 * K + (if (r != 0) = true then 1 else 0)) (by grind)
  generalize hI : Builtin.Int.intBits (2 * K + (if (r != 0) = true then 1 else 0)) = I at *
  generalize hg : ((I : Int) - p).toNat = gone at *
  obtain ⟨gg, hgg⟩ : ∃ gg, gone = gg + 2 := ⟨gone - 2, by grind⟩
  have eG : (2 : Int) ^ gone = 2 * (2 * 2 ^ gg) := by rw [hgg, Int.pow_succ, Int.pow_succ]; grind
  rw [eG] at hR
  have S1 := rne_sticky hb hX hr0 hrb (by grind) hR
  rw [← eG] at S1
  -- the bounds of the doubled numerator
  have lo : (2 : Int) ^ (I - 1) ≤ 2 * K + (if (r != 0) = true then 1 else 0) := by
    have : ((2 ^ (I - 1) : Nat) : Int) ≤ ((2 * K + (if (r != 0) = true then 1 else 0)).natAbs : Int) := Int.ofNat_le.mpr a1
    rw [pow_cast] at this; grind
  have hi : 2 * K + (if (r != 0) = true then 1 else 0) < (2 : Int) ^ I := by
    have : ((2 * K + (if (r != 0) = true then 1 else 0)).natAbs : Int) < ((2 ^ I : Nat) : Int) := Int.ofNat_lt.mpr a2
    rw [pow_cast] at this; grind
  obtain ⟨I2, hI2⟩ : ∃ I2, I = I2 + 2 := ⟨I - 2, by grind⟩
  have eI1 : (2 : Int) ^ (I - 1) = 2 * 2 ^ I2 := by rw [hI2, show I2 + 2 - 1 = I2 + 1 by grind, Int.pow_succ]; grind
  have eI : (2 : Int) ^ I = 2 * (2 * 2 ^ I2) := by rw [hI2, Int.pow_succ, Int.pow_succ]; grind
  rw [eI1] at lo
  rw [eI] at hi
  have lo' : 2 ^ I2 ≤ K := by grind
  have hi' : K + 1 ≤ 2 * 2 ^ I2 := by grind
  have PI := pow_posI I2
  have lob := Int.mul_le_mul_of_nonneg_left lo' (Int.le_of_lt hb)
  have hib := Int.mul_le_mul_of_nonneg_left hi' (Int.le_of_lt hb)
  have hib' : b * (K + 1) = b * K + b := by grind
  refine .inr ⟨h0, ?_, gone + 63 - sh, R, ?_⟩
  · rcases hN with ⟨q1, q2, q3⟩ | q
    · -- R cannot be nought
      exfalso
      have hRpos : 0 < R := by
        have := rne_lo (k := 1) S1 (Int.mul_pos (pow_posI _) hb) (by
          have e3 : p.toNat + gone = I := by grind
          have : gone ≤ I2 := by grind
          have w := powI_le this
          have w2 := Int.mul_le_mul_of_nonneg_right w (Int.le_of_lt hb)
          have w3 : 2 ^ I2 * b = b * 2 ^ I2 := Int.mul_comm _ _
          have w4 := Int.mul_pos (pow_posI gone) hb
          grind)
        grind
      rcases sign_cases h0 with e | e <;> rw [e] at q1 <;> grind
    · exact q.1
  · -- the very shape
    have PS := pow_posI sh
    have e4 : gone + 63 - sh + sh + 1 = 64 + gone := by grind
    have key : ((2 : Int) ^ (gone + 63 - sh) * b) * 2 ^ (sh + 1) = 2 ^ 64 * (2 ^ gone * b) := by
      have := congrArg (fun k => (2 : Int) ^ k) e4
      simp only [Int.pow_add] at this ⊢
      grind
    generalize hY : (2 : Int) ^ (gone + 63 - sh) * b = Y at *
    have eP : (2 : Int) ^ (p - 1).toNat * 2 ^ gone = 2 * 2 ^ I2 := by
      rw [← powI_add, show (p - 1).toNat + gone = I2 + 1 by grind, Int.pow_succ]; grind
    have eP' : (2 : Int) ^ p.toNat * 2 ^ gone = 2 * (2 * 2 ^ I2) := by
      rw [← powI_add, show p.toNat + gone = I2 + 1 + 1 by grind, Int.pow_succ, Int.pow_succ]; grind
    have PS1 := pow_posI (sh + 1)
    have hsh1 : (2 : Int) ^ (sh + 1) = 2 * 2 ^ sh := by rw [Int.pow_succ]; grind
    have hN' : ∃ k : Nat, t.sign * R = m * 2 ^ k ∧ e + 64 = ((gone + 63 - sh : Nat) : Int) + k := by
      rcases hN with ⟨q1, q2, q3⟩ | ⟨_, k, q1, q2⟩
      · refine ⟨0, by rw [q1, q2]; simp, ?_⟩
        exfalso
        have hRpos : 0 < R := by
          have := rne_lo (k := 1) S1 (Int.mul_pos (pow_posI _) hb) (by
            have : gone ≤ I2 := by grind
            have w := powI_le this
            have w2 := Int.mul_le_mul_of_nonneg_right w (Int.le_of_lt hb)
            have w3 : 2 ^ I2 * b = b * 2 ^ I2 := Int.mul_comm _ _
            have w4 := Int.mul_pos (pow_posI gone) hb
            grind)
          grind
        rcases sign_cases h0 with e | e <;> rw [e] at q1 <;> grind
      · exact ⟨k, q1, by grind⟩
    obtain ⟨k, k1, k2⟩ := hN'
    have hYp : 0 < Y := by rw [← hY]; exact Int.mul_pos (pow_posI _) hb
    refine ⟨k, ?_, ?_, rne_scale S1 (Int.mul_pos (pow_posI _) hb) hYp ?_, k1, k2⟩
    · refine mul_lt_pos PS1 ?_
      have : 2 ^ (p - 1).toNat * Y * 2 ^ (sh + 1) = 2 ^ 64 * (2 * (b * 2 ^ I2)) := by grind
      rw [this, hsh1]
      have : (t.natAbs : Int) * 2 ^ 64 * (2 * 2 ^ sh) = 2 ^ 64 * (2 * ((t.natAbs : Int) * 2 ^ sh)) := by grind
      rw [this, hX]
      grind
    · refine Int.lt_of_mul_lt_mul_right ?_ (Int.le_of_lt PS1)
      have : 2 ^ p.toNat * Y * 2 ^ (sh + 1) = 2 ^ 64 * (2 * (b * (2 * 2 ^ I2))) := by grind
      rw [this, hsh1]
      have : (t.natAbs : Int) * 2 ^ 64 * (2 * 2 ^ sh) = 2 ^ 64 * (2 * ((t.natAbs : Int) * 2 ^ sh)) := by grind
      rw [this, hX]
      grind
    · have := hX
      rw [hsh1] at key
      grind
end
theorem rdD {p t b R m e : Int} (h0 : t ≠ 0) (hp1 : 2 ≤ p) (hp2 : p ≤ 8) (ht1 : -31 ≤ t) (ht2 : t ≤ 31) (hb1 : 1 ≤ b) (hb2 : b ≤ 15)
    (hR : IsRne (if t.sign * (2 * ((if t < 0 then -t else t) * 2 ^ (p + 2 + (Builtin.Int.intBits b : Int) - (Builtin.Int.intBits t : Int)).toNat).fdiv b + (if (((if t < 0 then -t else t) * 2 ^ (p + 2 + (Builtin.Int.intBits b : Int) - (Builtin.Int.intBits t : Int)).toNat).fmod b != 0) = true then 1 else 0)) < 0
        then -(t.sign * (2 * ((if t < 0 then -t else t) * 2 ^ (p + 2 + (Builtin.Int.intBits b : Int) - (Builtin.Int.intBits t : Int)).toNat).fdiv b + (if (((if t < 0 then -t else t) * 2 ^ (p + 2 + (Builtin.Int.intBits b : Int) - (Builtin.Int.intBits t : Int)).toNat).fmod b != 0) = true then 1 else 0)))
        else t.sign * (2 * ((if t < 0 then -t else t) * 2 ^ (p + 2 + (Builtin.Int.intBits b : Int) - (Builtin.Int.intBits t : Int)).toNat).fdiv b + (if (((if t < 0 then -t else t) * 2 ^ (p + 2 + (Builtin.Int.intBits b : Int) - (Builtin.Int.intBits t : Int)).toNat).fmod b != 0) = true then 1 else 0)))
      (2 ^ ((Builtin.Int.intBits (t.sign * (2 * ((if t < 0 then -t else t) * 2 ^ (p + 2 + (Builtin.Int.intBits b : Int) - (Builtin.Int.intBits t : Int)).toNat).fdiv b + (if (((if t < 0 then -t else t) * 2 ^ (p + 2 + (Builtin.Int.intBits b : Int) - (Builtin.Int.intBits t : Int)).toNat).fmod b != 0) = true then 1 else 0))) : Int) - p).toNat) R)
    (hN : NormOf ((t.sign * (2 * ((if t < 0 then -t else t) * 2 ^ (p + 2 + (Builtin.Int.intBits b : Int) - (Builtin.Int.intBits t : Int)).toNat).fdiv b + (if (((if t < 0 then -t else t) * 2 ^ (p + 2 + (Builtin.Int.intBits b : Int) - (Builtin.Int.intBits t : Int)).toNat).fmod b != 0) = true then 1 else 0))).sign * R)
      (0 - (p + 2 + (Builtin.Int.intBits b : Int) - (Builtin.Int.intBits t : Int)) - 1 + ((Builtin.Int.intBits (t.sign * (2 * ((if t < 0 then -t else t) * 2 ^ (p + 2 + (Builtin.Int.intBits b : Int) - (Builtin.Int.intBits t : Int)).toNat).fdiv b + (if (((if t < 0 then -t else t) * 2 ^ (p + 2 + (Builtin.Int.intBits b : Int) - (Builtin.Int.intBits t : Int)).toNat).fmod b != 0) = true then 1 else 0))) : Int) - p)) m e) :
    NearSpec p t b m e := by
  have hb : 0 < b := by grind
  have hK := rdA h0 hp1 hp2 ht1 ht2 hb1 hb2
  have ⟨hs1, hs2⟩ := rdShift hp1 hp2 ht1 ht2 hb1 hb2
  have hsh : ((p + 2 + (Builtin.Int.intBits b : Int) - (Builtin.Int.intBits t : Int)).toNat : Int) = p + 2 + (Builtin.Int.intBits b : Int) - (Builtin.Int.intBits t : Int) := by grind
  refine rdC (sh := (p + 2 + (Builtin.Int.intBits b : Int) - (Builtin.Int.intBits t : Int)).toNat) h0 hp1 hp2 hK.1 hK.2 hb ?_ ?_ ?_ (by grind) hR (by rw [hsh]; exact hN)
  · rw [ite_natAbs, Int.fdiv_eq_ediv_of_nonneg _ (by grind), Int.fmod_eq_emod_of_nonneg _ (by grind)]
    exact (Int.mul_ediv_add_emod _ _).symm
  · rw [Int.fmod_eq_emod_of_nonneg _ (by grind)]; exact Int.emod_nonneg _ (by grind)
  · rw [Int.fmod_eq_emod_of_nonneg _ (by grind)]; exact Int.emod_lt_of_pos _ hb
end NT
end
section
namespace NT
def sc (m e : Int) : Int := m * 2 ^ (e + 64).toNat
theorem sign_mul_pos {x p : Int} (hp : 0 < p) : (x * p).sign = x.sign := by
  rw [Int.sign_mul, Int.sign_eq_one_of_pos hp, Int.mul_one]
theorem cm_gt {m1 e1 m2 e2 : Int} (h1 : 0 < m1) (h2 : 0 < m2) (he1 : -60 ≤ e1) (he2 : -60 ≤ e2)
    (h : (Builtin.Int.intBits m2 : Int) + e2 < (Builtin.Int.intBits m1 : Int) + e1) : sc m2 e2 < sc m1 e1 := by
  obtain ⟨a1, _, a3⟩ := intBits_pos (n := m1) (by grind)
  obtain ⟨_, c2, c3⟩ := intBits_pos (n := m2) (by grind)
  have a1' : (2 : Int) ^ (Builtin.Int.intBits m1 - 1) ≤ m1 := by
    have : ((2 ^ (Builtin.Int.intBits m1 - 1) : Nat) : Int) ≤ (m1.natAbs : Int) := Int.ofNat_le.mpr a1
    rw [pow_cast] at this; grind
  have c2' : m2 < (2 : Int) ^ Builtin.Int.intBits m2 := by
    have : (m2.natAbs : Int) < ((2 ^ Builtin.Int.intBits m2 : Nat) : Int) := Int.ofNat_lt.mpr c2
    rw [pow_cast] at this; grind
  have k1 := Int.mul_le_mul_of_nonneg_right a1' (Int.le_of_lt (pow_posI (e1 + 64).toNat))
  have k2 := Int.mul_lt_mul_of_pos_right c2' (pow_posI (e2 + 64).toNat)
  rw [← powI_add] at k1 k2
  have k3 := powI_le (show Builtin.Int.intBits m2 + (e2 + 64).toNat ≤ Builtin.Int.intBits m1 - 1 + (e1 + 64).toNat by grind)
  unfold sc
  grind
theorem cm_sign_gt {m1 e1 m2 e2 : Int} (h1 : 0 < m1) (h2 : 0 < m2) (he1 : -60 ≤ e1) (he2 : -60 ≤ e2)
    (h : (Builtin.Int.intBits m2 : Int) + e2 < (Builtin.Int.intBits m1 : Int) + e1) : (1 : Int) = (sc m1 e1 - sc m2 e2).sign := by
  have := cm_gt h1 h2 he1 he2 h
  rw [Int.sign_eq_one_of_pos (by grind)]
theorem cm_sign_lt {m1 e1 m2 e2 : Int} (h1 : 0 < m1) (h2 : 0 < m2) (he1 : -60 ≤ e1) (he2 : -60 ≤ e2)
    (h : (Builtin.Int.intBits m1 : Int) + e1 < (Builtin.Int.intBits m2 : Int) + e2) : (-1 : Int) = (sc m1 e1 - sc m2 e2).sign := by
  have := cm_gt h2 h1 he2 he1 h
  rw [Int.sign_eq_neg_one_of_neg (by grind)]
theorem cm_eq {m1 e1 m2 e2 lo : Int} (hl1 : lo ≤ e1) (hl2 : lo ≤ e2) (hl : -60 ≤ lo) : (m1 * 2 ^ (e1 - lo).toNat - m2 * 2 ^ (e2 - lo).toNat).sign = (sc m1 e1 - sc m2 e2).sign := by
  rw [← sign_mul_pos (pow_posI (lo + 64).toNat)]
  congr 1
  unfold sc
  rw [Int.sub_mul, Int.mul_assoc, Int.mul_assoc, ← powI_add, ← powI_add]
  rw [show (e1 - lo).toNat + (lo + 64).toNat = (e1 + 64).toNat by grind, show (e2 - lo).toNat + (lo + 64).toNat = (e2 + 64).toNat by grind]
theorem sc_sign {m e : Int} : (sc m e).sign = m.sign := sign_mul_pos (pow_posI _)
theorem sc_zero (e : Int) : sc 0 e = 0 := Int.zero_mul _
theorem sc_neg (m e : Int) : sc (-m) e = - sc m e := Int.neg_mul ..
theorem sc_natAbs_pos {m e : Int} (h : 0 < m.sign) : sc (m.natAbs : Int) e = sc m e := by
  have : 0 < m := Int.sign_pos_iff.mp h
  rw [show (m.natAbs : Int) = m by grind]
theorem sc_natAbs_neg {m e : Int} (h : m.sign < 0) : sc (m.natAbs : Int) e = - sc m e := by
  have : m < 0 := Int.sign_neg_iff.mp h
  rw [show (m.natAbs : Int) = -m by grind, sc_neg]
/-- compare_reals: the signs part -/
theorem cr_gt {m1 e1 m2 e2 : Int} (h : m2.sign < m1.sign) : (1 : Int) = (sc m1 e1 - sc m2 e2).sign := by
  have h1 := @sc_sign m1 e1
  have h2 := @sc_sign m2 e2
  rw [Int.sign_eq_one_of_pos]
  rcases Int.lt_trichotomy (sc m1 e1) 0 with a | a | a <;> rcases Int.lt_trichotomy (sc m2 e2) 0 with b | b | b <;>
    simp [Int.sign_eq_neg_one_of_neg, Int.sign_eq_one_of_pos, a, b] at h1 h2 <;> grind
theorem cr_lt {m1 e1 m2 e2 : Int} (h : m1.sign < m2.sign) : (-1 : Int) = (sc m1 e1 - sc m2 e2).sign := by
  have := @cr_gt m2 e2 m1 e1 h
  rw [← Int.neg_sub, Int.sign_neg, ← this]
theorem cr_eq {m1 e1 m2 e2 : Int} (h : m1.sign = m2.sign) (h0 : m1.sign ≠ 0) : m1.sign * (sc (m1.natAbs : Int) e1 - sc (m2.natAbs : Int) e2).sign = (sc m1 e1 - sc m2 e2).sign := by
  have hm : m1 ≠ 0 := fun e => h0 (by rw [e]; rfl)
  rcases sign_cases hm with e | e
  · rw [sc_natAbs_pos (by grind), sc_natAbs_pos (by grind), e, Int.one_mul]
  · rw [sc_natAbs_neg (by grind), sc_natAbs_neg (by grind), e, Int.neg_one_mul, ← Int.sign_neg]
    congr 1; grind
theorem cr_zero {m1 e1 m2 e2 : Int} (h : m1.sign = m2.sign) (h0 : m1.sign = 0) : (0 : Int) = (sc m1 e1 - sc m2 e2).sign := by
  have a : m1 = 0 := Int.sign_eq_zero_iff_zero.mp h0
  have b : m2 = 0 := Int.sign_eq_zero_iff_zero.mp (by grind)
  rw [a, b, sc_zero, sc_zero]; rfl
theorem fm_bnd {p m : Int} (hp1 : 2 ≤ p) (hp2 : p ≤ 8) (hm : m ≠ 0) (hb : m.natAbs < 2 ^ p.toNat) :
    (Builtin.Int.intBits m : Int) ≤ p ∧ 1 ≤ Builtin.Int.intBits m ∧ 2 ^ (p - 1).toNat ≤ (m.natAbs : Int) * 2 ^ (p - (Builtin.Int.intBits m : Int)).toNat ∧ (m.natAbs : Int) * 2 ^ (p - (Builtin.Int.intBits m : Int)).toNat < 2 ^ p.toNat := by
  have h1 := intBits_le hb
  obtain ⟨a1, a2, a3⟩ := intBits_pos hm
  have a1' : (2 : Int) ^ (Builtin.Int.intBits m - 1) ≤ (m.natAbs : Int) := by rw [← pow_cast]; exact Int.ofNat_le.mpr a1
  have a2' : (m.natAbs : Int) < (2 : Int) ^ Builtin.Int.intBits m := by rw [← pow_cast]; exact Int.ofNat_lt.mpr a2
  have P := pow_posI (p - (Builtin.Int.intBits m : Int)).toNat
  have k1 := Int.mul_le_mul_of_nonneg_right a1' (Int.le_of_lt P)
  have k2 := Int.mul_lt_mul_of_pos_right a2' P
  rw [← powI_add] at k1 k2
  rw [show Builtin.Int.intBits m - 1 + (p - (Builtin.Int.intBits m : Int)).toNat = (p - 1).toNat by grind] at k1
  rw [show Builtin.Int.intBits m + (p - (Builtin.Int.intBits m : Int)).toNat = p.toNat by grind] at k2
  exact ⟨by grind, a3, k1, k2⟩
/-- the full mantissa's size -/
def fmOf (p m : Int) : Int := (m.natAbs : Int) * 2 ^ (p - (Builtin.Int.intBits m : Int)).toNat
theorem fm_bnd' {p m : Int} (hp1 : 2 ≤ p) (hp2 : p ≤ 8) (hm : m ≠ 0) (hb : m.natAbs < 2 ^ p.toNat) :
    (Builtin.Int.intBits m : Int) ≤ p ∧ 1 ≤ Builtin.Int.intBits m ∧ 2 ≤ fmOf p m ∧ fmOf p m < 256 := by
  obtain ⟨a, b, c, d⟩ := fm_bnd hp1 hp2 hm hb
  have e := powI_le (show p.toNat ≤ 8 by grind)
  have f := powI_le (show 1 ≤ (p - 1).toNat by grind)
  unfold fmOf
  exact ⟨a, b, by grind, by grind⟩
theorem norm_neg {m e m' e' : Int} (h : NormOf m e m' e') : NormOf (-m) e (-m') e' := by
  rcases h with ⟨a, b, c⟩ | ⟨a, k, b, c⟩
  · exact .inl ⟨by grind, by grind, c⟩
  · refine .inr ⟨by grind, k, by rw [b, Int.neg_mul], c⟩
/-- the next number of p bits beside m, e, on the side of way -/
def NextSpec (p m e way m' e' : Int) : Prop :=
  (fmOf p m = 2 ^ (p - 1).toNat ∧ ¬ (0 < m ↔ 0 < way) → NormOf (m.sign * (2 * fmOf p m) + way) (e - (p - (Builtin.Int.intBits m : Int)) - 1) m' e') ∧
  (¬ (fmOf p m = 2 ^ (p - 1).toNat ∧ ¬ (0 < m ↔ 0 < way)) → NormOf (m.sign * fmOf p m + way) (e - (p - (Builtin.Int.intBits m : Int))) m' e')
theorem next_far {p m e m' e' : Int} (hm : 0 < m) (h : NormOf (m.sign * (fmOf p m + 1)) (e - (p - (Builtin.Int.intBits m : Int))) m' e') : NextSpec p m e 1 m' e' := by
  rw [Int.sign_eq_one_of_pos hm] at h
  refine ⟨fun q => absurd q.2 (by simp [hm]), fun _ => ?_⟩
  rw [Int.sign_eq_one_of_pos hm]
  rw [Int.one_mul] at h ⊢
  exact h
theorem next_near1 {p m e m' e' : Int} (hm : m < 0) (hf : fmOf p m = 2 ^ (p - 1).toNat) (h : NormOf (m.sign * (2 * fmOf p m - 1)) (e - (p - (Builtin.Int.intBits m : Int)) - 1) m' e') : NextSpec p m e 1 m' e' := by
  rw [Int.sign_eq_neg_one_of_neg hm] at h
  refine ⟨fun _ => ?_, fun q => absurd ⟨hf, by simp; grind⟩ q⟩
  rw [Int.sign_eq_neg_one_of_neg hm]
  rw [show -1 * (2 * fmOf p m - 1) = -1 * (2 * fmOf p m) + 1 by grind] at h
  exact h
theorem next_near2 {p m e m' e' : Int} (hm : m < 0) (hf : fmOf p m ≠ 2 ^ (p - 1).toNat) (h : NormOf (m.sign * (fmOf p m - 1)) (e - (p - (Builtin.Int.intBits m : Int))) m' e') : NextSpec p m e 1 m' e' := by
  rw [Int.sign_eq_neg_one_of_neg hm] at h
  refine ⟨fun q => absurd q.1 hf, fun _ => ?_⟩
  rw [Int.sign_eq_neg_one_of_neg hm]
  rw [show -1 * (fmOf p m - 1) = -1 * fmOf p m + 1 by grind] at h
  exact h
theorem intBits_neg (m : Int) : Builtin.Int.intBits (-m) = Builtin.Int.intBits m := intBits_natAbs (by grind)
theorem next_neg {p m e m' e' : Int} (hm : m ≠ 0) (h : NextSpec p (-m) e 1 m' e') : NextSpec p m e (-1) (-m') e' := by
  obtain ⟨h1, h2⟩ := h
  have ef : fmOf p (-m) = fmOf p m := by unfold fmOf; rw [intBits_neg, Int.natAbs_neg]
  rw [ef, intBits_neg, Int.sign_neg] at h1 h2
  refine ⟨fun q => ?_, fun q => ?_⟩
  · have := norm_neg (h1 ⟨q.1, by have := q.2; grind⟩)
    rw [show -(-m.sign * (2 * fmOf p m) + 1) = m.sign * (2 * fmOf p m) + -1 by rw [Int.neg_mul]; grind] at this
    exact this
  · have := norm_neg (h2 (fun r => q ⟨r.1, by have := r.2; grind⟩))
    rw [show -(-m.sign * fmOf p m + 1) = m.sign * fmOf p m + -1 by rw [Int.neg_mul]; grind] at this
    exact this
end NT
end
section
namespace NT
theorem near_pos {p t1 b1 t2 b2 R1 R2 : Int} {S1 S2 : Nat} (hp : 1 ≤ p) (ht1 : 0 < t1) (hb1 : 0 < b1) (hb2 : 0 < b2)
    (l1 : 2 ^ (p - 1).toNat * (2 ^ S1 * b1) ≤ t1 * 2 ^ 64) (u1 : t1 * 2 ^ 64 < 2 ^ p.toNat * (2 ^ S1 * b1)) (r1 : IsRne (t1 * 2 ^ 64) (2 ^ S1 * b1) R1)
    (l2 : 2 ^ (p - 1).toNat * (2 ^ S2 * b2) ≤ t2 * 2 ^ 64) (u2 : t2 * 2 ^ 64 < 2 ^ p.toNat * (2 ^ S2 * b2)) (r2 : IsRne (t2 * 2 ^ 64) (2 ^ S2 * b2) R2)
    (h : t1 * b2 ≤ t2 * b1) : R1 * 2 ^ S1 ≤ R2 * 2 ^ S2 := by
  have P1 := pow_posI S1
  have P2 := pow_posI S2
  have D1 := Int.mul_pos P1 hb1
  have D2 := Int.mul_pos P2 hb2
  have hpp : (2 : Int) ^ p.toNat = 2 * 2 ^ (p - 1).toNat := by
    rw [show p.toNat = (p - 1).toNat + 1 by lia, Int.pow_succ]; lia
  have Q := pow_posI (p - 1).toNat
  have h64 : t1 * 2 ^ 64 * b2 ≤ t2 * 2 ^ 64 * b1 := by
    have := Int.mul_le_mul_of_nonneg_right h (show (0 : Int) ≤ 2 ^ 64 by decide)
    grind
  rcases Nat.lt_trichotomy S1 S2 with hS | hS | hS
  · -- a lower scale
    have a := rne_hi r1 D1 (Int.le_of_lt u1)
    have b := rne_lo r2 D2 l2
    have c := powI_le (show S1 + 1 ≤ S2 by lia)
    rw [Int.pow_succ] at c
    have d1 := Int.mul_le_mul_of_nonneg_right a (Int.le_of_lt P1)
    have d2 := Int.mul_le_mul_of_nonneg_right b (Int.le_of_lt P2)
    have d3 := Int.mul_le_mul_of_nonneg_left c (Int.le_of_lt Q)
    rw [hpp] at d1
    grind
  · subst hS
    have : R1 ≤ R2 := rne_mono r1 r2 D1 D2 (by
      have := Int.mul_le_mul_of_nonneg_right h64 (Int.le_of_lt P1)
      grind)
    exact Int.mul_le_mul_of_nonneg_right this (Int.le_of_lt P1)
  · exfalso
    have c := powI_le (show S2 + 1 ≤ S1 by lia)
    rw [Int.pow_succ] at c
    -- 2^p 2^S2 b1 b2 ≤ 2^(p-1) 2^S1 b1 b2 ≤ t1 2^64 b2 ≤ t2 2^64 b1 < 2^p 2^S2 b2 b1
    have e1 := Int.mul_le_mul_of_nonneg_right l1 (Int.le_of_lt hb2)
    have e2 := Int.mul_lt_mul_of_pos_right u2 hb1
    have e3 := Int.mul_le_mul_of_nonneg_left c (Int.le_of_lt Q)
    have e4 := Int.mul_le_mul_of_nonneg_right e3 (Int.le_of_lt (Int.mul_pos hb1 hb2))
    rw [hpp] at e2
    grind
theorem near_sc {p t b m e : Int} (h : NearSpec p t b m e) : (t = 0 ∧ sc m e = 0) ∨ (t ≠ 0 ∧ ∃ (S : Nat) (R : Int), 2 ^ (p - 1).toNat * (2 ^ S * b) ≤ (t.natAbs : Int) * 2 ^ 64 ∧ (t.natAbs : Int) * 2 ^ 64 < 2 ^ p.toNat * (2 ^ S * b) ∧
    IsRne ((t.natAbs : Int) * 2 ^ 64) (2 ^ S * b) R ∧ sc m e = t.sign * (R * 2 ^ S)) := by
  rcases h with ⟨a, b, c⟩ | ⟨a, _, S, R, k, l, u, r, q1, q2⟩
  · exact .inl ⟨a, by rw [b, sc_zero]⟩
  · refine .inr ⟨a, S, R, l, u, r, ?_⟩
    unfold sc
    rw [show (e + 64).toNat = k + S by lia, powI_add, ← Int.mul_assoc, ← q1, Int.mul_assoc]
theorem near_nonneg {p t b S R : Int} {S' : Nat} (hb : 0 < b) (ht : 0 ≤ t) (r : IsRne (t * 2 ^ 64) (2 ^ S' * b) R) : 0 ≤ R * 2 ^ S' := by
  have := rne_lo (k := 0) r (Int.mul_pos (pow_posI _) hb) (by rw [Int.zero_mul]; exact Int.mul_nonneg ht (by decide))
  exact Int.mul_nonneg this (Int.le_of_lt (pow_posI _))
theorem near_mono {p t1 b1 m1 e1 t2 b2 m2 e2 : Int} (hp : 1 ≤ p) (hb1 : 0 < b1) (hb2 : 0 < b2) (h1 : NearSpec p t1 b1 m1 e1) (h2 : NearSpec p t2 b2 m2 e2) (h : t1 * b2 ≤ t2 * b1) : sc m1 e1 ≤ sc m2 e2 := by
  rcases near_sc h1 with ⟨z1, s1⟩ | ⟨z1, S1, R1, l1, u1, r1, s1⟩ <;> rcases near_sc h2 with ⟨z2, s2⟩ | ⟨z2, S2, R2, l2, u2, r2, s2⟩
  · rw [s1, s2]; exact Int.le_refl _
  · -- 0 ≤ t2
    subst z1
    rw [Int.zero_mul] at h
    have ht2 : 0 < t2 := by
      have : 0 ≤ t2 := by
        have := Int.le_of_mul_le_mul_right (show 0 * b1 ≤ t2 * b1 by lia) hb1
        exact this
      lia
    rw [s1, s2, Int.sign_eq_one_of_pos ht2, Int.one_mul]
    exact near_nonneg (p := p) (S := 0) hb2 (by lia) r2
  · subst z2
    rw [Int.zero_mul] at h
    have ht1 : t1 < 0 := by
      have := Int.le_of_mul_le_mul_right (show t1 * b2 ≤ 0 * b2 by lia) hb2
      lia
    rw [s1, s2, Int.sign_eq_neg_one_of_neg ht1]
    have := near_nonneg (p := p) (S := 0) hb1 (by lia) r1
    lia
  · rcases Int.lt_or_gt_of_ne z1 with n1 | n1 <;> rcases Int.lt_or_gt_of_ne z2 with n2 | n2
    · rw [s1, s2, Int.sign_eq_neg_one_of_neg n1, Int.sign_eq_neg_one_of_neg n2]
      have := near_pos hp (show 0 < (t2.natAbs : Int) by lia) hb2 hb1 l2 u2 r2 l1 u1 r1 (by
        rw [show (t2.natAbs : Int) = -t2 by lia, show (t1.natAbs : Int) = -t1 by lia, Int.neg_mul, Int.neg_mul]; lia)
      lia
    · rw [s1, s2, Int.sign_eq_neg_one_of_neg n1, Int.sign_eq_one_of_pos n2]
      have a := near_nonneg (p := p) (S := 0) hb1 (by lia) r1
      have b := near_nonneg (p := p) (S := 0) hb2 (by lia) r2
      lia
    · exfalso
      have a := Int.mul_pos n1 hb2
      have b := Int.mul_neg_of_neg_of_pos n2 hb1
      lia
    · rw [s1, s2, Int.sign_eq_one_of_pos n1, Int.sign_eq_one_of_pos n2, Int.one_mul, Int.one_mul]
      exact near_pos hp (show 0 < (t1.natAbs : Int) by lia) hb1 hb2 l1 u1 r1 l2 u2 r2 (by
        rw [show (t2.natAbs : Int) = t2 by lia, show (t1.natAbs : Int) = t1 by lia]; exact h)
/-- one value has one odd mantissa -/
theorem odd_uniq {m1 m2 : Int} {k1 k2 : Nat} (o1 : m1 % 2 = 1) (o2 : m2 % 2 = 1) (h : m1 * 2 ^ k1 = m2 * 2 ^ k2) : m1 = m2 ∧ k1 = k2 := by
  have key : ∀ (m1 m2 : Int) (k1 d : Nat), m1 % 2 = 1 → m1 * 2 ^ k1 = m2 * 2 ^ (k1 + d) → d = 0 ∧ m1 = m2 := by
    intro m1 m2 k1 d o h
    rw [powI_add, ← Int.mul_assoc, Int.mul_right_comm] at h
    have := Int.eq_of_mul_eq_mul_right (Int.ne_of_gt (pow_posI k1)) h
    cases d with
    | zero => exact ⟨rfl, by simpa using this⟩
    | succ d => rw [Int.pow_succ] at this; exfalso; have e : m1 = 2 * (m2 * 2 ^ d) := by grind
                lia
  rcases Nat.le_total k1 k2 with hk | hk
  · obtain ⟨d, rfl⟩ := Nat.exists_eq_add_of_le hk
    obtain ⟨a, b⟩ := key m1 m2 k1 d o1 h
    exact ⟨b, by lia⟩
  · obtain ⟨d, rfl⟩ := Nat.exists_eq_add_of_le hk
    obtain ⟨a, b⟩ := key m2 m1 k2 d o2 h.symm
    exact ⟨b.symm, by lia⟩
/-- in lowest form -/
def Lean2 (m e : Int) : Prop := (m = 0 ∧ e = 0) ∨ (m % 2 = 1 ∧ -64 ≤ e)
theorem sc_uniq {m1 e1 m2 e2 : Int} (h1 : Lean2 m1 e1) (h2 : Lean2 m2 e2) (h : sc m1 e1 = sc m2 e2) : m1 = m2 ∧ e1 = e2 := by
  rcases h1 with ⟨a1, b1⟩ | ⟨a1, b1⟩ <;> rcases h2 with ⟨a2, b2⟩ | ⟨a2, b2⟩
  · exact ⟨by lia, by lia⟩
  · exfalso
    subst a1
    rw [sc_zero] at h
    have := (Int.mul_eq_zero.mp h.symm).resolve_right (Int.ne_of_gt (pow_posI _))
    lia
  · exfalso
    subst a2
    rw [sc_zero] at h
    have := (Int.mul_eq_zero.mp h).resolve_right (Int.ne_of_gt (pow_posI _))
    lia
  · obtain ⟨a, b⟩ := odd_uniq a1 a2 h
    exact ⟨a, by lia⟩
theorem near_lean {p t b m e : Int} (h : NearSpec p t b m e) : Lean2 m e := by
  rcases h with ⟨_, b, c⟩ | ⟨_, o, S, R, k, _, _, _, _, q⟩
  · exact .inl ⟨b, c⟩
  · exact .inr ⟨o, by lia⟩
theorem near_uniq {p t1 b1 m1 e1 t2 b2 m2 e2 : Int} (hp : 1 ≤ p) (hb1 : 0 < b1) (hb2 : 0 < b2) (h1 : NearSpec p t1 b1 m1 e1) (h2 : NearSpec p t2 b2 m2 e2) (h : t1 * b2 = t2 * b1) : m1 = m2 ∧ e1 = e2 :=
  sc_uniq (near_lean h1) (near_lean h2) (Int.le_antisymm (near_mono hp hb1 hb2 h1 h2 (by lia)) (near_mono hp hb2 hb1 h2 h1 (by lia)))
theorem norm_uniq {m e m1 e1 m2 e2 : Int} (h1 : NormOf m e m1 e1) (h2 : NormOf m e m2 e2) : m1 = m2 ∧ e1 = e2 := by
  rcases h1 with ⟨a1, b1, c1⟩ | ⟨a1, k1, b1, c1⟩ <;> rcases h2 with ⟨a2, b2, c2⟩ | ⟨a2, k2, b2, c2⟩
  · exact ⟨by lia, by lia⟩
  · exfalso
    rw [a1] at b2
    have := (Int.mul_eq_zero.mp b2.symm).resolve_right (Int.ne_of_gt (pow_posI _))
    lia
  · exfalso
    rw [a2] at b1
    have := (Int.mul_eq_zero.mp b1.symm).resolve_right (Int.ne_of_gt (pow_posI _))
    lia
  · obtain ⟨a, b⟩ := odd_uniq a1 a2 (b1.symm.trans b2)
    exact ⟨a, by lia⟩
theorem next_uniq {p m e way m1 e1 m2 e2 : Int} (h1 : NextSpec p m e way m1 e1) (h2 : NextSpec p m e way m2 e2) : m1 = m2 ∧ e1 = e2 := by
  by_cases hc : fmOf p m = 2 ^ (p - 1).toNat ∧ ¬ (0 < m ↔ 0 < way)
  · exact norm_uniq (h1.1 hc) (h2.1 hc)
  · exact norm_uniq (h1.2 hc) (h2.2 hc)
end NT
end
section
namespace NT
theorem smsn (m : Int) : m.sign * m = (m.natAbs : Int) := by
  rcases Int.lt_trichotomy m 0 with h | h | h
  · rw [Int.sign_eq_neg_one_of_neg h]; lia
  · subst h; rfl
  · rw [Int.sign_eq_one_of_pos h]; lia
theorem fB_pos {p : Int} {x : Num} (h : NumOk p x) : 0 < x.fB := by
  cases x with
  | whole n => exact Int.one_pos
  | ratio t b => obtain ⟨_, _, h, _, _⟩ := h; show 0 < b; lia
  | real m e =>
    show 0 < if 0 ≤ e then (1 : Int) else 2 ^ (0 - e).toNat
    split
    · exact Int.one_pos
    · exact pow_posI _
theorem fB_posR (m e : Int) : 0 < (Num.real m e).fB := by
  show 0 < if 0 ≤ e then (1 : Int) else 2 ^ (0 - e).toNat
  split
  · exact Int.one_pos
  · exact pow_posI _
theorem fval {m e : Int} (he : -64 ≤ e) : (Num.real m e).fT * 2 ^ 64 = sc m e * (Num.real m e).fB := by
  show (if 0 ≤ e then m * 2 ^ e.toNat else m) * 2 ^ 64 = m * 2 ^ (e + 64).toNat * (if 0 ≤ e then (1 : Int) else 2 ^ (0 - e).toNat)
  by_cases h : 0 ≤ e
  · rw [if_pos h, if_pos h, Int.mul_one, Int.mul_assoc, ← powI_add]
    rw [show e.toNat + 64 = (e + 64).toNat by lia]
  · rw [if_neg h, if_neg h, Int.mul_assoc, ← powI_add]
    rw [show (e + 64).toNat + (0 - e).toNat = 64 by lia]
theorem less_real {m1 e1 m2 e2 : Int} (h1 : -64 ≤ e1) (h2 : -64 ≤ e2) : less (.real m1 e1) (.real m2 e2) = (sc m1 e1 - sc m2 e2).sign := by
  unfold less
  have a := fval (m := m1) h1
  have b := fval (m := m2) h2
  have p1 := fB_posR m1 e1
  have p2 := fB_posR m2 e2
  generalize (Num.real m1 e1).fT = x1 at *
  generalize (Num.real m1 e1).fB = y1 at *
  generalize (Num.real m2 e2).fT = x2 at *
  generalize (Num.real m2 e2).fB = y2 at *
  rw [← sign_mul_pos (x := x1 * y2 - x2 * y1) (p := 2 ^ 64) (by decide), ← sign_mul_pos (x := sc m1 e1 - sc m2 e2) (Int.mul_pos p1 p2)]
  congr 1
  grind
theorem fT_sign {m e : Int} : (Num.real m e).fT.sign = m.sign := by
  show (if 0 ≤ e then m * 2 ^ e.toNat else m).sign = m.sign
  split
  · exact sign_mul_pos (pow_posI _)
  · rfl
theorem near_self {p m e : Int} (hp1 : 2 ≤ p) (hp2 : p ≤ 8) (h : NumOk p (.real m e)) : NearSpec p (Num.real m e).fT (Num.real m e).fB m e := by
  rcases h with ⟨a, b⟩ | ⟨o, hb, e1, e2⟩
  · subst a; subst b
    exact .inl ⟨rfl, rfl, rfl⟩
  · have hm : m ≠ 0 := by lia
    obtain ⟨q1, q2, q3, q4⟩ := fm_bnd hp1 hp2 hm hb
    have hs := @fT_sign m e
    have hv := fval (m := m) (e := e) (by lia)
    have P := fB_posR m e
    generalize (Num.real m e).fB = y at *
    generalize (Num.real m e).fT = x at *
    have hx : x ≠ 0 := by
      intro e0
      rw [e0] at hs
      exact hm (Int.sign_eq_zero_iff_zero.mp hs.symm)
    -- |x| 2^64 = |m| 2^(e+64) y
    have hab : (x.natAbs : Int) * 2 ^ 64 = (m.natAbs : Int) * 2 ^ (e + 64).toNat * y := by
      have hv2 : x.sign * x * 2 ^ 64 = x.sign * (sc m e * y) := by rw [← hv]; grind
      rw [smsn] at hv2
      rw [hv2, hs]
      unfold sc
      have : m.sign * m = (m.natAbs : Int) := smsn m
      grind
    refine .inr ⟨hx, o, (e + 64 - (p - (Builtin.Int.intBits m : Int))).toNat, (m.natAbs : Int) * 2 ^ (p - (Builtin.Int.intBits m : Int)).toNat, (p - (Builtin.Int.intBits m : Int)).toNat, ?_, ?_, ?_, ?_, by lia⟩
    all_goals (try (
      have eS : (2 : Int) ^ (e + 64).toNat = 2 ^ (p - (Builtin.Int.intBits m : Int)).toNat * 2 ^ (e + 64 - (p - (Builtin.Int.intBits m : Int))).toNat := by
        rw [← powI_add]; congr 1; lia
      have PS := Int.mul_pos (pow_posI (e + 64 - (p - (Builtin.Int.intBits m : Int))).toNat) P
      have key : (x.natAbs : Int) * 2 ^ 64 = (m.natAbs : Int) * 2 ^ (p - (Builtin.Int.intBits m : Int)).toNat * (2 ^ (e + 64 - (p - (Builtin.Int.intBits m : Int))).toNat * y) := by
        rw [hab, eS]; grind
      rw [key]))
    · exact Int.mul_le_mul_of_nonneg_right q3 (Int.le_of_lt PS)
    · exact Int.mul_lt_mul_of_pos_right q4 PS
    · exact rne_exact PS rfl
    · rw [hs]
      have : m.sign * (m.natAbs : Int) = m := Int.sign_mul_natAbs m
      rw [← Int.mul_assoc, this]
theorem near_ok {p t b m e : Int} (hp1 : 2 ≤ p) (hp2 : p ≤ 8) (ht1 : -31 ≤ t) (ht2 : t ≤ 31) (hb1 : 1 ≤ b) (hb2 : b ≤ 15) (h : NearSpec p t b m e) : NumOk p (.real m e) ∧ -11 ≤ e ∧ e ≤ 5 := by
  rcases h with ⟨_, b, c⟩ | ⟨t0, o, S, R, k, l, u, r, q1, q2⟩
  · exact ⟨.inl ⟨b, c⟩, by lia, by lia⟩
  · have PS := pow_posI S
    have D := Int.mul_pos PS (show 0 < b by lia)
    have hpp : (2 : Int) ^ p.toNat = 2 * 2 ^ (p - 1).toNat := by
      rw [show p.toNat = (p - 1).toNat + 1 by lia, Int.pow_succ]; lia
    have R1 := rne_lo r D l
    have R2 := rne_hi r D (Int.le_of_lt u)
    have Q := pow_posI (p - 1).toNat
    have hk : (m.natAbs : Int) * 2 ^ k = R := by
      have a : (t.sign * R).natAbs = R.natAbs := (sgnMul t0 (by lia)).1
      rw [q1, Int.natAbs_mul, natAbs_pow] at a
      have a' := congrArg (fun n : Nat => (n : Int)) a
      simp only [Int.natCast_mul, pow_cast] at a'
      lia
    have hm1 : 1 ≤ (m.natAbs : Int) := by lia
    have hmk := Int.mul_le_mul_of_nonneg_right hm1 (Int.le_of_lt (pow_posI k))
    have hkp : k ≤ p.toNat := by
      by_cases hc : k ≤ p.toNat
      · exact hc
      · exfalso
        have := powI_le (show p.toNat + 1 ≤ k by lia)
        rw [Int.pow_succ] at this
        lia
    -- the scale from below
    have hS1 : 53 ≤ S := by
      by_cases hc : 53 ≤ S
      · exact hc
      · exfalso
        have a := powI_le (show p.toNat ≤ 8 by lia)
        have c := powI_le (show S ≤ 52 by lia)
        have d1 := Int.mul_le_mul_of_nonneg_right c (show 0 ≤ b by lia)
        have d2 := Int.mul_le_mul_of_nonneg_left (show b ≤ 15 from hb2) (show (0 : Int) ≤ 2 ^ 52 by decide)
        have d3 := Int.mul_le_mul_of_nonneg_right a (Int.le_of_lt D)
        lia
    have hS2 : (p - 1).toNat + S ≤ 68 := by
      by_cases hc : (p - 1).toNat + S ≤ 68
      · exact hc
      · exfalso
        have a := powI_le (show 69 ≤ (p - 1).toNat + S by lia)
        rw [powI_add (p - 1).toNat S] at a
        have d := Int.mul_le_mul_of_nonneg_left (show 1 ≤ b from hb1) (Int.le_of_lt (Int.mul_pos Q PS))
        rw [Int.mul_assoc (2 ^ (p - 1).toNat) (2 ^ S) b] at d
        lia
    have hmlt : m.natAbs < 2 ^ p.toNat := by
      have c1 := Int.mul_le_mul_of_nonneg_left (show (1 : Int) ≤ 2 ^ k by have := pow_posI k; lia) (show (0 : Int) ≤ m.natAbs by lia)
      have c2 : (m.natAbs : Int) ≤ 2 ^ p.toNat := by lia
      by_cases hc : (m.natAbs : Int) = 2 ^ p.toNat
      · exfalso; lia
      · have : (m.natAbs : Int) < ((2 ^ p.toNat : Nat) : Int) := by rw [pow_cast]; lia
        exact Int.ofNat_lt.mp this
    exact ⟨.inr ⟨o, hmlt, by lia, by lia⟩, by lia, by lia⟩
end NT
end
section
namespace NT
theorem exact_fT {x : Num} (h : x.isReal = false) : x.fT = x.top := by cases x <;> first | rfl | exact Bool.noConfusion h
theorem exact_fB {x : Num} (h : x.isReal = false) : x.fB = x.bot := by cases x <;> first | rfl | exact Bool.noConfusion h
theorem mkEx_top (t b : Int) : (mkEx t b).top = t := by unfold mkEx; split <;> rfl
theorem mkEx_bot (t b : Int) : (mkEx t b).bot = b := by unfold mkEx; split <;> first | (subst_vars; rfl) | rfl
theorem mkEx_isReal (t b : Int) : (mkEx t b).isReal = false := by unfold mkEx; split <;> rfl
theorem ex_isReal (x : Num) : x.ex.isReal = false := by cases x <;> first | rfl | exact mkEx_isReal _ _
theorem ex_of_exact {x : Num} (h : x.isReal = false) : x.ex = x := by cases x <;> first | rfl | exact Bool.noConfusion h
/-- the exact number has the same value -/
theorem ex_val {p : Int} {x : Num} (h : NumOk p x) : ∃ g : Int, 0 < g ∧ x.fT = g * x.ex.top ∧ x.fB = g * x.ex.bot := by
  have hB := fB_pos h
  cases x with
  | whole n => exact ⟨1, by decide, (Int.one_mul _).symm, (Int.one_mul _).symm⟩
  | ratio t b => exact ⟨1, by decide, (Int.one_mul _).symm, (Int.one_mul _).symm⟩
  | real m e =>
    have ⟨g1, g2⟩ := gcdPos (top := (Num.real m e).fT) hB
    refine ⟨_, g1, ?_, ?_⟩
    · show _ = _ * (mkEx _ _).top
      rw [mkEx_top, Int.mul_ediv_cancel' (Int.gcd_dvd_left _ _)]
    · show _ = _ * (mkEx _ _).bot
      rw [mkEx_bot, Int.mul_ediv_cancel' (Int.gcd_dvd_right _ _)]
theorem sgn_of_mul {g a b : Int} (h : a = g * b) (hg : 0 < g) : b.sign = a.sign := by rw [h, Int.mul_comm, sign_mul_pos hg]
theorem less_ex {p : Int} {x y : Num} (hx : NumOk p x) (hy : NumOk p y) : (x.ex.top * y.ex.bot - y.ex.top * x.ex.bot).sign = less x y := by
  obtain ⟨g, g0, a, b⟩ := ex_val hx
  obtain ⟨k, k0, c, d⟩ := ex_val hy
  unfold less
  rw [a, b, c, d, ← sign_mul_pos (x := x.ex.top * y.ex.bot - y.ex.top * x.ex.bot) (Int.mul_pos g0 k0)]
  congr 1; grind
theorem less_gt {p : Int} {x y : Num} (hx : NumOk p x) (hy : NumOk p y) (h : y.fT.sign < x.fT.sign) : less x y = 1 := by
  have bx := fB_pos hx
  have bY := fB_pos hy
  unfold less
  refine Int.sign_eq_one_of_pos ?_
  have a := sign_mul_pos (x := x.fT) bY
  have b := sign_mul_pos (x := y.fT) bx
  generalize x.fT * y.fB = P at *
  generalize y.fT * x.fB = Q at *
  rcases Int.lt_trichotomy P 0 with p1 | p1 | p1 <;> rcases Int.lt_trichotomy Q 0 with q1 | q1 | q1 <;>
    simp [Int.sign_eq_neg_one_of_neg, Int.sign_eq_one_of_pos, p1, q1] at a b <;> lia
theorem less_anti (x y : Num) : less y x = - less x y := by
  unfold less
  rw [← Int.sign_neg]; congr 1; lia
theorem less_lt {p : Int} {x y : Num} (hx : NumOk p x) (hy : NumOk p y) (h : x.fT.sign < y.fT.sign) : less x y = -1 := by
  have := less_gt hy hx h
  rw [less_anti, this]
theorem less_range (x y : Num) : less x y = 1 ∨ less x y = 0 ∨ less x y = -1 := by
  unfold less
  rcases Int.lt_trichotomy (x.fT * y.fB - y.fT * x.fB) 0 with h | h | h
  · exact .inr (.inr (Int.sign_eq_neg_one_of_neg h))
  · rw [h]; exact .inr (.inl rfl)
  · exact .inl (Int.sign_eq_one_of_pos h)
theorem less_eq0 {x y : Num} : less x y = 0 ↔ x.fT * y.fB = y.fT * x.fB := by
  unfold less
  rw [Int.sign_eq_zero_iff_zero]; lia
theorem less_le {x y : Num} : less x y ≤ 0 ↔ x.fT * y.fB ≤ y.fT * x.fB := by
  unfold less
  rcases Int.lt_trichotomy (x.fT * y.fB - y.fT * x.fB) 0 with h | h | h
  · rw [Int.sign_eq_neg_one_of_neg h]; lia
  · rw [h]; simp; lia
  · rw [Int.sign_eq_one_of_pos h]; lia
/-- reals: the same value, the same number -/
theorem same_reals {p m1 e1 m2 e2 : Int} (h1 : NumOk p (.real m1 e1)) (h2 : NumOk p (.real m2 e2)) : (m1 = m2 ∧ e1 = e2) ↔ less (.real m1 e1) (.real m2 e2) = 0 := by
  have l1 : Lean2 m1 e1 := by rcases h1 with ⟨a, b⟩ | ⟨a, _, b, _⟩; exact .inl ⟨a, b⟩; exact .inr ⟨a, by lia⟩
  have l2 : Lean2 m2 e2 := by rcases h2 with ⟨a, b⟩ | ⟨a, _, b, _⟩; exact .inl ⟨a, b⟩; exact .inr ⟨a, by lia⟩
  have b1 : -64 ≤ e1 := by rcases h1 with ⟨a, b⟩ | ⟨a, _, b, _⟩ <;> lia
  have b2 : -64 ≤ e2 := by rcases h2 with ⟨a, b⟩ | ⟨a, _, b, _⟩ <;> lia
  rw [less_real b1 b2, Int.sign_eq_zero_iff_zero]
  constructor
  · rintro ⟨rfl, rfl⟩; lia
  · intro h; exact sc_uniq l1 l2 (by lia)
theorem dvdOf {a b c : Int} (h : a ∣ b * c) (g : Int.gcd a b = 1) : a ∣ c := by
  have h1 := Int.gcd_mul_right_right_of_gcd_eq_one (n := a) (m := b) (k := c) g
  have h2 : Int.gcd a (b * c) = a.natAbs := Int.gcd_eq_natAbs_left h
  rw [h2] at h1
  have h3 := Int.gcd_dvd_right a c
  rw [← h1] at h3
  exact Int.natAbs_dvd.mp h3
/-- exact numbers: the same value, the same number -/
theorem same_exacts {p : Int} {x y : Num} (hx : NumOk p x) (hy : NumOk p y) (rx : x.isReal = false) (ry : y.isReal = false) : (x.top = y.top ∧ x.bot = y.bot) ↔ less x y = 0 := by
  rw [less_eq0, exact_fT rx, exact_fT ry, exact_fB rx, exact_fB ry]
  have gx : Int.gcd x.top x.bot = 1 ∧ 0 < x.bot := by
    cases x with
    | whole n => exact ⟨Int.gcd_one_right _, Int.one_pos⟩
    | ratio t b => obtain ⟨_, _, h, _, g⟩ := hx; exact ⟨g, by show 0 < b; lia⟩
    | real m e => exact Bool.noConfusion rx
  have gy : Int.gcd y.top y.bot = 1 ∧ 0 < y.bot := by
    cases y with
    | whole n => exact ⟨Int.gcd_one_right _, Int.one_pos⟩
    | ratio t b => obtain ⟨_, _, h, _, g⟩ := hy; exact ⟨g, by show 0 < b; lia⟩
    | real m e => exact Bool.noConfusion ry
  obtain ⟨gx, px⟩ := gx
  obtain ⟨gy, py⟩ := gy
  constructor
  · rintro ⟨h1, h2⟩; rw [h1, h2]
  · intro h
    -- x.bot divides y.bot and the other way round
    have d1 : x.bot ∣ y.bot := by
      have : x.bot ∣ x.top * y.bot := ⟨y.top, by rw [h, Int.mul_comm]⟩
      have g : Int.gcd x.bot x.top = 1 := by rw [Int.gcd_comm]; exact gx
      exact dvdOf this g
    have d2 : y.bot ∣ x.bot := by
      have : y.bot ∣ y.top * x.bot := ⟨x.top, by rw [← h, Int.mul_comm]⟩
      have g : Int.gcd y.bot y.top = 1 := by rw [Int.gcd_comm]; exact gy
      exact dvdOf this g
    have e : x.bot = y.bot := Int.le_antisymm (Int.le_of_dvd py d1) (Int.le_of_dvd px d2)
    rw [e] at h
    exact ⟨Int.eq_of_mul_eq_mul_right (Int.ne_of_gt py) h, e⟩
/-- the bounds of a number's sides -/
theorem exact_bnd {p : Int} {x : Num} (h : NumOk p x) : -31 ≤ x.top ∧ x.top ≤ 31 ∧ 1 ≤ x.bot ∧ x.bot ≤ 15 := by
  cases x with
  | whole n => obtain ⟨a, b⟩ := h; exact ⟨a, b, Int.le_refl _, by show (1 : Int) ≤ 15; decide⟩
  | ratio t b => obtain ⟨a, b', c, d, _⟩ := h; exact ⟨a, b', by show 1 ≤ b; lia, d⟩
  | real m e => exact ⟨by show (-31 : Int) ≤ 0; decide, by show (0 : Int) ≤ 31; decide, Int.le_refl _, by show (1 : Int) ≤ 15; decide⟩
theorem real_bnd {p m e : Int} (hp2 : p ≤ 8) (h : NumOk p (.real m e)) : -255 ≤ m ∧ m ≤ 255 ∧ -20 ≤ e ∧ e ≤ 15 := by
  rcases h with ⟨a, b⟩ | ⟨_, a, b, c⟩
  · lia
  · have : m.natAbs < 2 ^ 8 := Nat.lt_of_lt_of_le a (Nat.pow_le_pow_right (by decide) (by lia))
    lia
theorem frac_bnd {p : Int} {x : Num} (hp2 : p ≤ 8) (h : NumOk p x) : -16777216 ≤ x.fT ∧ x.fT ≤ 16777216 ∧ 1 ≤ x.fB ∧ x.fB ≤ 2097152 := by
  cases x with
  | whole n => obtain ⟨a, b⟩ := h; exact ⟨by show _ ≤ n; lia, by show n ≤ _; lia, Int.le_refl _, by show (1 : Int) ≤ 2097152; decide⟩
  | ratio t b => obtain ⟨a, b', c, d, _⟩ := h; exact ⟨by show _ ≤ t; lia, by show t ≤ _; lia, by show 1 ≤ b; lia, by show b ≤ _; lia⟩
  | real m e =>
    obtain ⟨a, b, c, d⟩ := real_bnd hp2 h
    show -16777216 ≤ (if 0 ≤ e then m * 2 ^ e.toNat else m) ∧ (if 0 ≤ e then m * 2 ^ e.toNat else m) ≤ 16777216 ∧ 1 ≤ (if 0 ≤ e then (1 : Int) else 2 ^ (0 - e).toNat) ∧ (if 0 ≤ e then (1 : Int) else 2 ^ (0 - e).toNat) ≤ 2097152
    split
    · have P := pow_posI e.toNat
      have q := powI_le (show e.toNat ≤ 15 by lia)
      have k1 := Int.mul_le_mul_of_nonneg_right b (Int.le_of_lt P)
      have k2 := Int.mul_le_mul_of_nonneg_right a (Int.le_of_lt P)
      refine ⟨by lia, by lia, by lia, by lia⟩
    · have P := pow_posI (0 - e).toNat
      have q := powI_le (show (0 - e).toNat ≤ 20 by lia)
      refine ⟨by lia, by lia, by lia, by lia⟩
theorem ediv_bnd {a g c : Int} (hg : 0 < g) (h1 : -c ≤ a) (h2 : a ≤ c) (hc : 0 ≤ c) : -c ≤ a / g ∧ a / g ≤ c := by
  have := Int.mul_ediv_add_emod a g
  have r1 := Int.emod_nonneg a (show g ≠ 0 by lia)
  have r2 := Int.emod_lt_of_pos a hg
  constructor
  · refine Int.le_ediv_of_mul_le hg ?_
    have := Int.mul_le_mul_of_nonneg_left (show 1 ≤ g by lia) hc
    rw [Int.neg_mul]; lia
  · refine Int.ediv_le_of_le_mul hg ?_
    have := Int.mul_le_mul_of_nonneg_left (show 1 ≤ g by lia) hc
    lia
theorem ex_bnd {p : Int} {x : Num} (hp2 : p ≤ 8) (h : NumOk p x) : -16777216 ≤ x.ex.top ∧ x.ex.top ≤ 16777216 := by
  obtain ⟨a, b, c, d⟩ := frac_bnd hp2 h
  cases x with
  | whole n => exact ⟨a, b⟩
  | ratio t b' => exact ⟨a, b⟩
  | real m e =>
    show -16777216 ≤ (mkEx _ _).top ∧ (mkEx _ _).top ≤ 16777216
    rw [mkEx_top]
    exact ediv_bnd (gcdPos (show 0 < (Num.real m e).fB by lia)).1 a b (by decide)
end NT
end
section
namespace NT
/-- the state of _law_near's scaling loops -/
structure NearInv (t0 b0 U V top bottom shift : Int) : Prop where
  tp : 0 < top
  tu : top ≤ U
  bp : 0 < bottom
  bu : bottom ≤ V
  s0 : -64 ≤ shift
  eq : t0 * 2 ^ 64 * bottom = top * 2 ^ (shift + 64).toNat * b0
theorem near_start {t0 b0 : Int} (h1 : 0 < t0) (h2 : t0 ≤ 16777216) (h3 : 0 < b0) (h4 : b0 ≤ 2097152) : NearInv t0 b0 16777216 16777216 t0 b0 0 :=
  ⟨h1, h2, h3, by grind, by grind, by rw [show ((0 : Int) + 64).toNat = 64 by decide]⟩
theorem NearInv.wide {t0 b0 U V U' V' top bottom shift : Int} (h : NearInv t0 b0 U V top bottom shift) (a : U ≤ U') (b : V ≤ V') : NearInv t0 b0 U' V' top bottom shift :=
  ⟨h.tp, Int.le_trans h.tu a, h.bp, Int.le_trans h.bu b, h.s0, h.eq⟩
theorem full_ge {p : Int} (hp1 : 2 ≤ p) : (4 : Int) ≤ 2 ^ p.toNat := powI_le (show 2 ≤ p.toNat by grind)
theorem full_half {p : Int} (hp1 : 2 ≤ p) : (2 : Int) ^ p.toNat = 2 * 2 ^ (p - 1).toNat := by
  rw [show p.toNat = (p - 1).toNat + 1 by grind, Int.pow_succ]; grind
theorem full_le {p : Int} (hp2 : p ≤ 8) : (2 : Int) ^ p.toNat ≤ 256 := powI_le (show p.toNat ≤ 8 by grind)
theorem half_le {p : Int} (hp2 : p ≤ 8) : (2 : Int) ^ (p - 1).toNat ≤ 128 := powI_le (show (p - 1).toNat ≤ 7 by grind)
/-- the loop that raises the bottom -/
theorem near_up {p t0 b0 U top bottom shift : Int} {l : Nat} (hp1 : 2 ≤ p) (h : NearInv t0 b0 U U top bottom shift) (hl : 1 ≤ l) (hc : bottom * 2 ^ p.toNat * 2 ^ (l - 1) ≤ top) :
    NearInv t0 b0 U U top (bottom * 2 ^ l) (shift + l) ∧ bottom * 2 ^ l < top ∧ bottom < bottom * 2 ^ l := by
  have f := full_ge hp1
  have P := pow_posI (l - 1)
  have e : (2 : Int) ^ l = 2 * 2 ^ (l - 1) := by
    rw [show l = (l - 1) + 1 by grind, Int.pow_succ]; simp; grind
  have k := Int.mul_pos h.bp P
  have k2 := Int.mul_le_mul_of_nonneg_left f (Int.le_of_lt k)
  have e2 : bottom * 2 ^ p.toNat * 2 ^ (l - 1) = bottom * 2 ^ (l - 1) * 2 ^ p.toNat := by grind
  have e3 : bottom * 2 ^ l = 2 * (bottom * 2 ^ (l - 1)) := by rw [e]; grind
  have k3 := Int.mul_le_mul_of_nonneg_left (show (1 : Int) ≤ 2 ^ (l - 1) by grind) (Int.le_of_lt h.bp)
  have tu := h.tu
  have bp := h.bp
  have s0 := h.s0
  refine ⟨⟨h.tp, h.tu, by grind, by grind, by grind, ?_⟩, by grind, by grind⟩
  rw [show (shift + l + 64).toNat = (shift + 64).toNat + l by grind, powI_add]
  have := h.eq
  grind
/-- the loop that raises the top -/
theorem near_down {p t0 b0 U V top bottom shift : Int} {l : Nat} (hp1 : 2 ≤ p) (hp2 : p ≤ 8) (h3 : 0 < b0) (h4 : b0 ≤ 2097152) (h1 : 0 < t0) (hU : 256 * V ≤ U) (h : NearInv t0 b0 U V top bottom shift) (hl : 1 ≤ l) (hc : top * 2 ^ (l - 1) < bottom * 2 ^ (p - 1).toNat) :
    NearInv t0 b0 U V (top * 2 ^ l) bottom (shift - l) ∧ top * 2 ^ l < bottom * 2 ^ p.toNat ∧ top < top * 2 ^ l := by
  have f := half_le hp2
  have ff := full_half hp1
  have P := pow_posI (l - 1)
  have e : (2 : Int) ^ l = 2 * 2 ^ (l - 1) := by
    rw [show l = (l - 1) + 1 by grind, Int.pow_succ]; simp; grind
  have e3 : top * 2 ^ l = 2 * (top * 2 ^ (l - 1)) := by rw [e]; grind
  have e4 : bottom * 2 ^ p.toNat = 2 * (bottom * 2 ^ (p - 1).toNat) := by rw [ff]; grind
  have k1 := Int.mul_le_mul_of_nonneg_left f (Int.le_of_lt h.bp)
  have k3 := Int.mul_le_mul_of_nonneg_left (show (1 : Int) ≤ 2 ^ (l - 1) by grind) (Int.le_of_lt h.tp)
  have tp := h.tp
  have bp := h.bp
  have bu := h.bu
  have s0 := h.s0
  -- the scale stays above the floor
  have hS : (l : Int) ≤ shift + 64 := by
    by_cases hc2 : (l : Int) ≤ shift + 64
    · exact hc2
    · exfalso
      have c := powI_le (show (shift + 64).toNat ≤ l - 1 by grind)
      have a1 := Int.mul_le_mul_of_nonneg_left c (Int.le_of_lt tp)
      have a2 : top * 2 ^ (shift + 64).toNat < bottom * 128 := by grind
      have a3 := Int.mul_lt_mul_of_pos_right a2 h3
      rw [← h.eq] at a3
      have a4 := Int.mul_le_mul_of_nonneg_left h4 (show 0 ≤ bottom * 128 by grind)
      have a5 := Int.mul_le_mul_of_nonneg_right (show 1 ≤ t0 from h1) (show 0 ≤ 2 ^ 64 * bottom by grind)
      have a6 : t0 * 2 ^ 64 * bottom = t0 * (2 ^ 64 * bottom) := Int.mul_assoc ..
      grind
  refine ⟨⟨by grind, by grind, h.bp, h.bu, by grind, ?_⟩, by grind, by grind⟩
  have := h.eq
  rw [show (shift + 64).toNat = (shift - l + 64).toNat + l by grind, powI_add] at this
  grind
/-- the loop that takes the twos out -/
structure HalfInv (R s0 w s : Int) : Prop where
  wp : 0 < w
  eq : ∃ k : Nat, R = w * 2 ^ k ∧ s = s0 + k
theorem half_start {R s : Int} (h : 0 < R) : HalfInv R s R s := ⟨h, 0, by simp, by simp⟩
theorem half_turn {R s0 w s : Int} (h : HalfInv R s0 w s) (hc : w.fmod 2 = 0) : HalfInv R s0 (w.fdiv 2) (s + 1) := by
  rw [Int.fmod_eq_emod_of_nonneg _ (by decide)] at hc
  rw [Int.fdiv_eq_ediv_of_nonneg _ (by decide)]
  obtain ⟨wp, k, e1, e2⟩ := h
  refine ⟨by grind, k + 1, ?_, by grind⟩
  rw [e1, Int.pow_succ]
  have : w = 2 * (w / 2) := by grind
  generalize w / 2 = z at *
  subst this; grind
theorem half_meas {R s0 w s : Int} (h : HalfInv R s0 w s) (hc : w.fmod 2 = 0) : (w.fdiv 2).toNat < w.toNat := by
  rw [Int.fdiv_eq_ediv_of_nonneg _ (by decide)]
  have := h.wp
  grind
/-- what _law_near hands back -/
theorem near_end {p t b top bottom shift R w s : Int} (ht : t ≠ 0) (hp1 : 2 ≤ p) (hb : 0 < b) {U V : Int} (h : NearInv (t.natAbs : Int) b U V top bottom shift) (hlo : ¬ top < bottom * 2 ^ (p - 1).toNat) (hhi : top < bottom * 2 ^ p.toNat)
    (hR : IsRne top bottom R) (hw : HalfInv R shift w s) (ho : w.fmod 2 ≠ 0) : NearSpec p t b (if t < 0 then 0 - w else w) s := by
  rw [Int.fmod_eq_emod_of_nonneg _ (by decide)] at ho
  obtain ⟨wp, k, e1, e2⟩ := hw
  have hbp := h.bp
  have heq := h.eq
  have hs0 := h.s0
  have S := pow_posI (shift + 64).toNat
  have D := Int.mul_pos S hb
  refine .inr ⟨ht, by split <;> grind, (shift + 64).toNat, R, k, ?_, ?_, ?_, ?_, by grind⟩
  · refine mul_lt_pos hbp ?_
    rw [heq]
    have := Int.mul_le_mul_of_nonneg_right (show bottom * 2 ^ (p - 1).toNat ≤ top by grind) (Int.le_of_lt D)
    grind
  · refine Int.lt_of_mul_lt_mul_right ?_ (Int.le_of_lt hbp)
    rw [heq]
    have := Int.mul_lt_mul_of_pos_right hhi D
    grind
  · exact rne_scale hR hbp D (by rw [heq]; grind)
  · by_cases hn : t < 0
    · rw [if_pos hn, Int.sign_eq_neg_one_of_neg hn, e1]; grind
    · rw [if_neg hn, Int.sign_eq_one_of_pos (by grind), e1]; grind
/-- the rounding of the quotient -/
theorem nr1 {top bottom : Int} (hb : 0 < bottom) (h : bottom < 2 * (top - top.fdiv bottom * bottom)) : IsRne top bottom (top.fdiv bottom + 1) := by
  rw [Int.fdiv_eq_ediv_of_nonneg _ (Int.le_of_lt hb)] at h ⊢
  have h1 := Int.emod_nonneg top (show bottom ≠ 0 by grind)
  have h2 := Int.emod_lt_of_pos top hb
  have h3 := Int.mul_ediv_add_emod top bottom
  have h4 : (top / bottom + 1) * bottom = bottom * (top / bottom) + bottom := by grind
  have h5 : top / bottom * bottom = bottom * (top / bottom) := Int.mul_comm _ _
  unfold IsRne
  rw [h4]
  refine ⟨by grind, by grind, fun q => ?_, fun q => ?_⟩ <;> grind
theorem nr2 {top bottom : Int} (hb : 0 < bottom) (h : 2 * (top - top.fdiv bottom * bottom) = bottom) (ho : (top.fdiv bottom).fmod 2 = 1) : IsRne top bottom (top.fdiv bottom + 1) := by
  rw [Int.fmod_eq_emod_of_nonneg _ (by decide)] at ho
  rw [Int.fdiv_eq_ediv_of_nonneg _ (Int.le_of_lt hb)] at h ho ⊢
  have h3 := Int.mul_ediv_add_emod top bottom
  have h4 : (top / bottom + 1) * bottom = bottom * (top / bottom) + bottom := by grind
  have h5 : top / bottom * bottom = bottom * (top / bottom) := Int.mul_comm _ _
  unfold IsRne
  rw [h4]
  refine ⟨by grind, by grind, fun q => ?_, fun q => ?_⟩ <;> grind
theorem nr3 {top bottom : Int} (hb : 0 < bottom) (h : ¬ bottom < 2 * (top - top.fdiv bottom * bottom)) (h' : 2 * (top - top.fdiv bottom * bottom) = bottom → (top.fdiv bottom).fmod 2 ≠ 1) : IsRne top bottom (top.fdiv bottom) := by
  rw [Int.fmod_eq_emod_of_nonneg _ (by decide)] at h'
  rw [Int.fdiv_eq_ediv_of_nonneg _ (Int.le_of_lt hb)] at h h' ⊢
  have h1 := Int.emod_nonneg top (show bottom ≠ 0 by grind)
  have h2 := Int.emod_lt_of_pos top hb
  have h3 := Int.mul_ediv_add_emod top bottom
  have h5 : top / bottom * bottom = bottom * (top / bottom) := Int.mul_comm _ _
  unfold IsRne
  rw [h5] at h h' ⊢
  refine ⟨by grind, by grind, fun q => ?_, fun q => ?_⟩ <;> grind
theorem nr_pos {p top bottom : Int} (hp1 : 2 ≤ p) (hb : 0 < bottom) (hlo : ¬ top < bottom * 2 ^ (p - 1).toNat) : 0 < top.fdiv bottom := by
  rw [Int.fdiv_eq_ediv_of_nonneg _ (Int.le_of_lt hb)]
  have f := powI_le (show 1 ≤ (p - 1).toNat by grind)
  have := Int.mul_le_mul_of_nonneg_left f (Int.le_of_lt hb)
  have : (1 : Int) ≤ top / bottom := Int.le_ediv_of_mul_le hb (by grind)
  grind
/-- the loop that takes the twos out of a signed mantissa -/
structure TwosInv (M E m e : Int) : Prop where
  ne : m ≠ 0
  eq : ∃ k : Nat, M = m * 2 ^ k ∧ e = E + k
theorem twos_start {M E : Int} (h : M ≠ 0) : TwosInv M E M E := ⟨h, 0, by simp, by simp⟩
theorem twos_turn {M E m e : Int} (h : TwosInv M E m e) (hc : m.fmod 2 = 0) : TwosInv M E (m.fdiv 2) (e + 1) := by
  rw [Int.fmod_eq_emod_of_nonneg _ (by decide)] at hc
  rw [Int.fdiv_eq_ediv_of_nonneg _ (by decide)]
  obtain ⟨ne, k, e1, e2⟩ := h
  refine ⟨by grind, k + 1, ?_, by grind⟩
  rw [e1, Int.pow_succ]
  have : m = 2 * (m / 2) := by grind
  generalize m / 2 = z at *
  subst this; grind
theorem twos_meas {M E m e : Int} (h : TwosInv M E m e) (hc : m.fmod 2 = 0) : (m.fdiv 2).natAbs < m.natAbs := by
  rw [Int.fmod_eq_emod_of_nonneg _ (by decide)] at hc
  rw [Int.fdiv_eq_ediv_of_nonneg _ (by decide)]
  have := h.ne
  grind
theorem twos_end {M E m e : Int} (h : TwosInv M E m e) (hc : m.fmod 2 ≠ 0) : NormOf M E m e := by
  rw [Int.fmod_eq_emod_of_nonneg _ (by decide)] at hc
  obtain ⟨ne, k, e1, e2⟩ := h
  exact .inr ⟨by grind, k, e1, e2⟩
theorem noPylong_mid {x y : Int} (h1 : 0 < y) (h2 : y ≤ 1152921504606846976) : Builtin.divisionGoesByPylong x y = false := by
  refine PyProof.noPylong_of_log2 ?_
  have : y.natAbs.log2 < 61 := (Nat.log2_lt (by grind)).mpr (by grind)
  grind
theorem meas_up {p t0 b0 U top bottom shift : Int} {l : Nat} (hp1 : 2 ≤ p) (h : NearInv t0 b0 U U top bottom shift) (hl : 1 ≤ l) (hc : bottom * 2 ^ p.toNat * 2 ^ (l - 1) ≤ top) : (top - bottom * 2 ^ l).toNat < (top - bottom).toNat := by
  have ⟨_, a, b⟩ := near_up hp1 h hl hc
  grind
theorem meas_down {p t0 b0 U V top bottom shift : Int} {l : Nat} (hp1 : 2 ≤ p) (hp2 : p ≤ 8) (h3 : 0 < b0) (h4 : b0 ≤ 2097152) (h1 : 0 < t0) (hU : 256 * V ≤ U) (h : NearInv t0 b0 U V top bottom shift) (hl : 1 ≤ l) (hc : top * 2 ^ (l - 1) < bottom * 2 ^ (p - 1).toNat) :
    (bottom * 2 ^ p.toNat - top * 2 ^ l).toNat < (bottom * 2 ^ p.toNat - top).toNat := by
  have ⟨_, a, b⟩ := near_down hp1 hp2 h3 h4 h1 hU h hl hc
  grind
theorem near_exit {top bottom F : Int} (h : ¬ bottom * F * 2 ^ ((1 : Int) - 1).toNat ≤ top) : top < bottom * F := by
  have e : (2 : Int) ^ ((1 : Int) - 1).toNat = 1 := by decide
  rw [e, Int.mul_one] at h
  grind
theorem near_exit2 {top bottom F : Int} (h : ¬ top * 2 ^ ((1 : Int) - 1).toNat < bottom * F) : ¬ top < bottom * F := by
  have e : (2 : Int) ^ ((1 : Int) - 1).toNat = 1 := by decide
  rw [e, Int.mul_one] at h
  exact h
/-- the last loop, its end of the first kept beside -/
structure NearInv2 (p t0 b0 U V top bottom shift : Int) : Prop where
  inv : NearInv t0 b0 U V top bottom shift
  hi : top < bottom * 2 ^ p.toNat
theorem near_down2 {p t0 b0 U V top bottom shift : Int} {l : Nat} (hp1 : 2 ≤ p) (hp2 : p ≤ 8) (h3 : 0 < b0) (h4 : b0 ≤ 2097152) (h1 : 0 < t0) (hU : 256 * V ≤ U) (h : NearInv2 p t0 b0 U V top bottom shift) (hl : 1 ≤ l) (hc : top * 2 ^ (l - 1) < bottom * 2 ^ (p - 1).toNat) :
    NearInv2 p t0 b0 U V (top * 2 ^ l) bottom (shift - l) :=
  have ⟨a, b, _⟩ := near_down hp1 hp2 h3 h4 h1 hU h.inv hl hc
  ⟨a, b⟩
theorem near_upA {p t0 b0 U top bottom shift : Int} {l : Nat} (hp1 : 2 ≤ p) (h : NearInv t0 b0 U U top bottom shift) (hc : bottom * 2 ^ p.toNat * 2 ^ (l - 1) ≤ top) (hl : 1 ≤ l) :
    NearInv t0 b0 U U top (bottom * 2 ^ l) (shift + l) := (near_up hp1 h hl hc).1
theorem near_downA {p t0 b0 U V top bottom shift : Int} {l : Nat} (hp1 : 2 ≤ p) (hp2 : p ≤ 8) (h3 : 0 < b0) (h4 : b0 ≤ 2097152) (h1 : 0 < t0) (h : NearInv t0 b0 U V top bottom shift) (hc : top * 2 ^ (l - 1) < bottom * 2 ^ (p - 1).toNat) (hU : 256 * V ≤ U) (hl : 1 ≤ l) :
    NearInv t0 b0 U V (top * 2 ^ l) bottom (shift - l) := (near_down hp1 hp2 h3 h4 h1 hU h hl hc).1
theorem meas_downA {p t0 b0 U V top bottom shift : Int} {l : Nat} (hp1 : 2 ≤ p) (hp2 : p ≤ 8) (h3 : 0 < b0) (h4 : b0 ≤ 2097152) (h1 : 0 < t0) (h : NearInv t0 b0 U V top bottom shift) (hc : top * 2 ^ (l - 1) < bottom * 2 ^ (p - 1).toNat) (hU : 256 * V ≤ U) (hl : 1 ≤ l) :
    (bottom * 2 ^ p.toNat - top * 2 ^ l).toNat < (bottom * 2 ^ p.toNat - top).toNat := meas_down hp1 hp2 h3 h4 h1 hU h hl hc
theorem near_down2A {p t0 b0 U V top bottom shift : Int} {l : Nat} (hp1 : 2 ≤ p) (hp2 : p ≤ 8) (h3 : 0 < b0) (h4 : b0 ≤ 2097152) (h1 : 0 < t0) (h : NearInv2 p t0 b0 U V top bottom shift) (hc : top * 2 ^ (l - 1) < bottom * 2 ^ (p - 1).toNat) (hU : 256 * V ≤ U) (hl : 1 ≤ l) :
    NearInv2 p t0 b0 U V (top * 2 ^ l) bottom (shift - l) := near_down2 hp1 hp2 h3 h4 h1 hU h hl hc
theorem meas_upA {p t0 b0 U top bottom shift : Int} {l : Nat} (hp1 : 2 ≤ p) (h : NearInv t0 b0 U U top bottom shift) (hc : bottom * 2 ^ p.toNat * 2 ^ (l - 1) ≤ top) (hl : 1 ≤ l) : (top - bottom * 2 ^ l).toNat < (top - bottom).toNat := meas_up hp1 h hl hc
end NT
end
section
namespace NT
structure GrowInv (p M E m e : Int) : Prop where
  hi : (m.natAbs : Int) < 2 ^ p.toNat
  eq : ∃ k : Nat, m = M * 2 ^ k ∧ e = E - k
theorem grow_start {p M E : Int} (h : M.natAbs < 2 ^ p.toNat) : GrowInv p M E M E := ⟨by rw [← pow_cast]; exact Int.ofNat_lt.mpr h, 0, by simp, by simp⟩
theorem grow_turn {p M E m e : Int} (hp1 : 2 ≤ p) (h : GrowInv p M E m e) (hc : (if m < 0 then -m else m) < 2 ^ (p - 1).toNat) : GrowInv p M E (m * 2) (e - 1) := by
  rw [ite_natAbs] at hc
  have := full_half hp1
  obtain ⟨hi, k, e1, e2⟩ := h
  refine ⟨by lia, k + 1, ?_, by lia⟩
  rw [e1, Int.pow_succ]; grind
theorem grow_meas {p M E m e : Int} (hM : M ≠ 0) (h : GrowInv p M E m e) (hc : (if m < 0 then -m else m) < 2 ^ (p - 1).toNat) : ((2 : Int) ^ (p - 1).toNat - ((m * 2).natAbs : Int)).toNat < ((2 : Int) ^ (p - 1).toNat - (m.natAbs : Int)).toNat := by
  rw [ite_natAbs] at hc
  obtain ⟨hi, k, e1, e2⟩ := h
  have hm : m ≠ 0 := by
    intro h0
    rw [h0] at e1
    have := (Int.mul_eq_zero.mp e1.symm).resolve_right (Int.ne_of_gt (pow_posI k))
    exact hM this
  lia
/-- the grown mantissa -/
structure GrowEnd (p M E m e : Int) : Prop where
  abs : (m.natAbs : Int) = fmOf p M
  pos : 0 < m ↔ 0 < M
  mul : m = M.sign * fmOf p M
  exp : e = E - (p - (Builtin.Int.intBits M : Int))
  big : m ≤ -2 ∨ 2 ≤ m
  small : -256 < m ∧ m < 256
theorem grow_end {p M E m e : Int} (hp1 : 2 ≤ p) (hp2 : p ≤ 8) (hM : M ≠ 0) (hb : M.natAbs < 2 ^ p.toNat) (h : GrowInv p M E m e) (hc : ¬ (if m < 0 then -m else m) < 2 ^ (p - 1).toNat) : GrowEnd p M E m e := by
  rw [ite_natAbs] at hc
  obtain ⟨q1, q2, q3, q4⟩ := fm_bnd hp1 hp2 hM hb
  obtain ⟨hi, k, e1, e2⟩ := h
  have ff := full_half hp1
  have hab : (m.natAbs : Int) = (M.natAbs : Int) * 2 ^ k := by
    rw [e1, Int.natAbs_mul, natAbs_pow, Int.natCast_mul, pow_cast]
  have hMp : 0 < (M.natAbs : Int) := by lia
  have hk : k = (p - (Builtin.Int.intBits M : Int)).toNat := by
    rcases Nat.lt_trichotomy k (p - (Builtin.Int.intBits M : Int)).toNat with c | c | c
    · exfalso
      have w := powI_le (show k + 1 ≤ (p - (Builtin.Int.intBits M : Int)).toNat by lia)
      rw [Int.pow_succ] at w
      have w2 := Int.mul_le_mul_of_nonneg_left w (Int.le_of_lt hMp)
      have w3 : (M.natAbs : Int) * (2 ^ k * 2) = 2 * ((M.natAbs : Int) * 2 ^ k) := by grind
      lia
    · exact c
    · exfalso
      have w := powI_le (show (p - (Builtin.Int.intBits M : Int)).toNat + 1 ≤ k by lia)
      rw [Int.pow_succ] at w
      have w2 := Int.mul_le_mul_of_nonneg_left w (Int.le_of_lt hMp)
      have w3 : (M.natAbs : Int) * (2 ^ (p - (Builtin.Int.intBits M : Int)).toNat * 2) = 2 * ((M.natAbs : Int) * 2 ^ (p - (Builtin.Int.intBits M : Int)).toNat) := by grind
      lia
  subst hk
  have f2 := powI_le (show 1 ≤ (p - 1).toNat by lia)
  have f8 := full_le hp2
  have P := pow_posI (p - (Builtin.Int.intBits M : Int)).toNat
  refine ⟨hab, ?_, ?_, by lia, by lia, by lia⟩
  · have := sign_mul_pos (x := M) P
    rw [← e1] at this
    constructor
    · intro h; rw [Int.sign_eq_one_of_pos h] at this; exact Int.sign_pos_iff.mp (by lia)
    · intro h; rw [Int.sign_eq_one_of_pos h] at this; exact Int.sign_pos_iff.mp (by lia)
  · unfold fmOf
    rw [← Int.mul_assoc, Int.sign_mul_natAbs]; exact e1
theorem next_A {p M E m e way m' e' : Int} (g : GrowEnd p M E m e) (h1 : (if m < 0 then -m else m) = 2 ^ (p - 1).toNat) (h2 : decide (0 < m) ≠ decide (0 < way)) (h : NormOf (m * 2 + way) (e - 1) m' e') : NextSpec p M E way m' e' := by
  rw [ite_natAbs, g.abs] at h1
  have hc : ¬ (0 < M ↔ 0 < way) := by
    rw [← g.pos]
    intro q
    exact h2 (decide_eq_decide.mpr q)
  refine ⟨fun _ => ?_, fun q => absurd ⟨h1, hc⟩ q⟩
  rw [← g.exp]
  have e1 : M.sign * (2 * fmOf p M) = m * 2 := by rw [g.mul]; grind
  rw [e1]; exact h
theorem next_B {p M E m e way m' e' : Int} (g : GrowEnd p M E m e) (hn : (if m < 0 then -m else m) = 2 ^ (p - 1).toNat → decide (0 < m) = decide (0 < way)) (h : NormOf (m + way) e m' e') : NextSpec p M E way m' e' := by
  rw [ite_natAbs, g.abs] at hn
  refine ⟨fun q => ?_, fun _ => ?_⟩
  · exfalso
    apply q.2
    rw [← g.pos]
    exact decide_eq_decide.mp (hn q.1)
  · rw [← g.exp, ← g.mul]; exact h
theorem low_ok {t b : Int} (h1 : -30 ≤ t) (h2 : t ≤ 30) (h3 : 1 ≤ b) (h4 : b ≤ 12) : -30 ≤ t / (Int.gcd t b : Int) ∧ t / (Int.gcd t b : Int) ≤ 30 ∧ 1 ≤ b / (Int.gcd t b : Int) ∧ b / (Int.gcd t b : Int) ≤ 12 ∧ Int.gcd (t / (Int.gcd t b : Int)) (b / (Int.gcd t b : Int)) = 1 := by
  obtain ⟨g1, g2⟩ := gcdPos (top := t) (show 0 < b by lia)
  obtain ⟨a, b'⟩ := ediv_bnd g1 h1 h2 (by decide)
  obtain ⟨c, d⟩ := ediv_bnd (a := b) g1 (show -12 ≤ b by lia) h4 (by decide)
  refine ⟨a, b', ?_, d, ?_⟩
  · exact Int.le_ediv_of_mul_le g1 (by lia)
  · exact Int.gcd_ediv_gcd_ediv_gcd (by lia)
theorem fm5 (c : Int) : 0 ≤ c.fmod 5 ∧ c.fmod 5 < 5 := by rw [Int.fmod_eq_emod_of_nonneg _ (by decide)]; lia
theorem fm61 (c : Int) : 0 ≤ c.fmod 61 ∧ c.fmod 61 < 61 := by rw [Int.fmod_eq_emod_of_nonneg _ (by decide)]; lia
theorem fm12 (c : Int) : 0 ≤ c.fmod 12 ∧ c.fmod 12 < 12 := by rw [Int.fmod_eq_emod_of_nonneg _ (by decide)]; lia
theorem norm_id {p m e m' e' : Int} (ok : NumOk p (.real m e)) (h : NormOf m e m' e') : NumOk p (.real m' e') := by
  rcases ok with ⟨a, b⟩ | ⟨o, b, c⟩
  · rcases h with ⟨_, d, f⟩ | ⟨d, k, f, _⟩
    · exact .inl ⟨d, f⟩
    · exfalso
      rw [a] at f
      have := (Int.mul_eq_zero.mp f.symm).resolve_right (Int.ne_of_gt (pow_posI _))
      lia
  · have h2 : NormOf m e m e := .inr ⟨o, 0, by simp, by simp⟩
    obtain ⟨q1, q2⟩ := norm_uniq h h2
    rw [q1, q2]
    exact .inr ⟨o, b, c⟩
theorem ok_lt {p m e : Int} (ok : NumOk p (.real m e)) (hm : m ≠ 0) : m.natAbs < 2 ^ p.toNat := by
  rcases ok with ⟨a, _⟩ | ⟨_, b, _⟩
  · exact absurd a hm
  · exact b
theorem grown_ok {p M E m e way m' e' : Int} (hp1 : 2 ≤ p) (hp2 : p ≤ 8) (hM : M ≠ 0) (hb : M.natAbs < 2 ^ p.toNat) (hE1 : -11 ≤ E) (hE2 : E ≤ 5) (g : GrowEnd p M E m e) (gi : GrowInv p M E m e) (hw1 : -1 ≤ way) (hw2 : way ≤ 1) (h : NormOf (m + way) e m' e') : NumOk p (.real m' e') := by
  obtain ⟨q1, q2, q3, q4⟩ := fm_bnd hp1 hp2 hM hb
  have hx := g.exp
  have hbg := g.big
  have hi := gi.hi
  have f8 := full_le hp2
  rcases h with ⟨a, b, c⟩ | ⟨o, k, a, b⟩
  · exfalso; lia
  · have hab : ((m + way).natAbs : Int) = (m'.natAbs : Int) * 2 ^ k := by
      rw [a, Int.natAbs_mul, natAbs_pow, Int.natCast_mul, pow_cast]
    have P := pow_posI k
    have hm1 : 1 ≤ (m'.natAbs : Int) := by lia
    have k1 := Int.mul_le_mul_of_nonneg_right hm1 (Int.le_of_lt P)
    have k2 := Int.mul_le_mul_of_nonneg_left (show (1 : Int) ≤ 2 ^ k by lia) (show (0 : Int) ≤ m'.natAbs by lia)
    have hk : k ≤ 8 := by
      by_cases hc : k ≤ 8
      · exact hc
      · exfalso
        have := powI_le (show 9 ≤ k by lia)
        lia
    have hle : (m'.natAbs : Int) ≤ 2 ^ p.toNat := by lia
    have hev := full_half hp1
    have hlt : (m'.natAbs : Int) < 2 ^ p.toNat := by lia
    refine .inr ⟨o, ?_, by lia, by lia⟩
    have : (m'.natAbs : Int) < ((2 ^ p.toNat : Nat) : Int) := by rw [pow_cast]; exact hlt
    exact Int.ofNat_lt.mp this
/-- the exact number is the fraction in lowest terms -/
theorem ex_low {p : Int} {x : Num} (h : NumOk p x) : x.ex.top = x.fT / (Int.gcd x.fT x.fB : Int) ∧ x.ex.bot = x.fB / (Int.gcd x.fT x.fB : Int) := by
  cases x with
  | whole n => show n = n / (Int.gcd n 1 : Int) ∧ (1 : Int) = 1 / (Int.gcd n 1 : Int); rw [Int.gcd_one_right]; simp
  | ratio t b =>
    obtain ⟨_, _, _, _, g⟩ := h
    show t = t / (Int.gcd t b : Int) ∧ b = b / (Int.gcd t b : Int); rw [g]; simp
  | real m e => exact ⟨mkEx_top _ _, mkEx_bot _ _⟩
theorem ok_lt' {p m e : Int} (ok : NumOk p (.real m e)) : m.natAbs < 2 ^ p.toNat := by
  rcases ok with ⟨a, _⟩ | ⟨_, b, _⟩
  · rw [a]; exact Nat.two_pow_pos _
  · exact b
theorem near_pair {p m1 e1 m2 e2 : Int} {x y : Num} (hp1 : 2 ≤ p) (hp2 : p ≤ 8) (ox : NumOk p x) (oy : NumOk p y) (h1 : NearSpec p x.fT x.fB m1 e1) (h2 : NearSpec p y.fT y.fB m2 e2) (o1 : NumOk p (.real m1 e1)) (o2 : NumOk p (.real m2 e2)) :
    0 ≤ less (.real m1 e1) (.real m2 e2) * less x y := by
  have bx := fB_pos ox
  have bY := fB_pos oy
  obtain ⟨_, _, r1, _⟩ := real_bnd hp2 o1
  obtain ⟨_, _, r2, _⟩ := real_bnd hp2 o2
  have e := less_real (m1 := m1) (m2 := m2) (show -64 ≤ e1 by lia) (show -64 ≤ e2 by lia)
  rcases less_range x y with h | h | h
  · have hle : y.fT * x.fB ≤ x.fT * y.fB := by
      have := less_anti x y
      exact less_le.mp (by lia)
    have := near_mono (show 1 ≤ p by lia) bY bx h2 h1 hle
    rw [h, Int.mul_one, e]
    rcases Int.lt_trichotomy (sc m1 e1 - sc m2 e2) 0 with c | c | c
    · lia
    · rw [c]; decide
    · rw [Int.sign_eq_one_of_pos c]; decide
  · rw [h, Int.mul_zero]; decide
  · have hle : x.fT * y.fB ≤ y.fT * x.fB := less_le.mp (by lia)
    have := near_mono (show 1 ≤ p by lia) bx bY h1 h2 hle
    rw [h, e]
    rcases Int.lt_trichotomy (sc m1 e1 - sc m2 e2) 0 with c | c | c
    · rw [Int.sign_eq_neg_one_of_neg c]; decide
    · rw [c]; decide
    · lia
end NT
end
section
open PySem PySem.Spec PySem.Calls PySem.W PyProof.Rows
namespace NT
section
variable {prog : Program} {w : World} {A : Around}
/-- a list comprehension over a list, turn by turn, by an invariant of the heap; the turn knows the iterator's object -/
theorem comp_go {elt iter : Expr} {x : Str} {px : Pos} {scope : Scope} {cl : List (Str × Addr)} {pos : Pos} {env : Env} {I C D ax : Addr} {its : Array Value} {R : Result → Shared → Prop} {s : Shared}
    (J : Nat → List Value → Heap → Prop) (hh : A.handled = none) (hkind : scope.kind = .function) (hx : scope.names.lookup x = some .local)
    (hIC : I ≠ C) (hID : I ≠ D) (hCD : C ≠ D) (hxI : ax ≠ I) (hxC : ax ≠ C) (hxD : ax ≠ D) (hsz : its.size ≤ sizeLine)
    (keep : ∀ i ys h h', J i ys h → (∀ b o, b ≠ I → b ≠ C → b ≠ D → h.get? b = some o → h'.get? b = some o) → J i ys h')
    (turn : ∀ i v ys h tk m' (E' : Value → Shared → Prop), its[i]? = some v → ys.length = i → J i ys h → h.IsListIter I ax (i + 1) → h.IsList ax its → h.Ns C m' → m' x = some v → h.get? D = some (LCg.lst ys) →
      wpAny (model prog w) A (eval elt (compEnvC scope cl C env)) (fun y s' => ∃ h' tk' m'', s' = { s with heap := h', toks := tk' } ∧ J (i + 1) (ys ++ [y]) h' ∧ h'.IsListIter I ax (i + 1) ∧ h'.IsList ax its ∧ h'.Ns C m'' ∧ h'.get? D = some (LCg.lst ys)) E' { s with heap := h, toks := tk })
    (fin : ∀ ys h tk m', ys.length = its.size → J its.size ys h → h.Ns C m' → h.get? D = some (LCg.lst ys) → R (.ok .next) { s with heap := h, toks := tk })
    {h0 : Heap} {tk0 : Nat} {m0 : Str → Option Value} (j0 : J 0 [] h0) (i0 : h0.IsListIter I ax 0) (l0 : h0.IsList ax its) (n0 : h0.Ns C m0) (d0 : h0.get? D = some (LCg.lst [])) :
    codeAny (model prog w) A (.compLoop (.ListComp elt [⟨.Name x px, iter, [], 0⟩] scope pos) 0 (.ref I) (.ref D) (compEnvC scope cl C env)) R { s with heap := h0, toks := tk0 } := by
  refine codeAny_compLoop_tests (fun k s' => ∃ h tk i ys m', s' = { s with heap := h, toks := tk } ∧ i + k = its.size + 1 ∧ i ≤ its.size ∧ ys.length = i ∧ J i ys h ∧ h.IsListIter I ax i ∧ h.IsList ax its ∧ h.Ns C m' ∧ h.get? D = some (LCg.lst ys)) ?_ (its.size + 1)
    ⟨h0, tk0, 0, [], m0, rfl, Nat.zero_add _, Nat.zero_le _, rfl, j0, i0, l0, n0, d0⟩
  rintro k s' ⟨h, tk, i, ys, m', rfl, hk, hi, hy, j, it, l, n, d⟩
  by_cases hlt : i < its.size
  · refine wpAny_pyNext_list_item it l (x := its[i]) (by simp [hlt]) fun h1 it1 c1 => ?_
    have g1 := c1.extBut
    refine wpAny_assign_Name (wpAny_storeName_local (lookup_relabel_local hx) (n.extBut g1 (Ne.symm hIC)) (fun h2 n2 c2 => ?_) (by simp [compEnvC, relabel, hkind]))
    have g2 : Heap.ExtBut C h1 h2 := c2.extBut
    refine wpAny_tests_nil ?_
    simp only [if_true]
    have d2 : h2.get? D = some (LCg.lst ys) := g2 _ _ (Ne.symm hCD) (g1 _ _ (Ne.symm hID) d)
    have it2 : h2.IsListIter I ax (i + 1) := by obtain ⟨o, e, r⟩ := it1; exact ⟨o, g2 _ _ hIC e, r⟩
    have l2 : h2.IsList ax its := (l.extBut g1 hxI).extBut g2 hxC
    have j2 : J i ys h2 := keep _ _ _ _ j fun b o b1 b2 _ e => g2 _ _ b2 (g1 _ _ b1 e)
    refine wpAny_mono (turn i its[i] ys h2 _ _ _ (by simp [hlt]) hy j2 it2 l2 n2 (by simp) d2) (fun y s4 q => ?_) fun _ _ e => e
    obtain ⟨h4, tk4, m4, rfl, j4, it4, l4, n4, d4⟩ := q
    refine append_at d4 (fun h5 c5 d5 => ?_) (by rw [List.size_toArray, hy]; exact Nat.le_trans hi hsz)
    have g5 := c5.extBut
    refine ⟨k - 1, by lia, h5, tk4, i + 1, ys ++ [y], m4, rfl, by lia, hlt, by rw [List.length_append, List.length_singleton, hy], keep _ _ _ _ j4 fun b o _ _ b3 e => g5 _ _ b3 e, ?_, l4.extBut g5 hxD, n4.extBut g5 hCD, d5.trans (congrArg some (LCg.lst_snoc ys y))⟩
    obtain ⟨o, e, r⟩ := it4
    exact ⟨o, g5 _ _ hID e, r⟩
  · obtain rfl : i = its.size := Nat.le_antisymm hi (Nat.not_lt.mp hlt)
    refine wpAny_pyNext_list_end hh it l (by simp) fun h1 c1 => ?_
    exact fin ys h1 _ _ hy (keep _ _ _ _ j fun b o b1 _ _ e => c1 b o b1 e) (n.at' fun o e => c1 C o (Ne.symm hIC) e) (c1 _ _ (Ne.symm hID) d)
end
abbrev Led := List (Addr × Obj)
/-- a list with its room -/
abbrev lisK (vs : List Value) (k : Nat) : Obj := { cls := .type "list", data := .seq vs.toArray k }
/-- the end of a comprehension's turn: the ledger goes on off the comprehension's own things -/
def TurnEnd (h₀ : Heap) (L : Addr) (m : Str → Option Value) (news : Led) (K : Nat → List Value → Led → Prop) (I : Addr) (oI : Obj) (C : Addr) (oC : Obj) (D : Addr) (i : Nat) (ys : List Value) (s₁ : Shared) (y : Value) (s₂ : Shared) : Prop :=
  ∃ h' tk nw, s₂ = { s₁ with heap := h', toks := tk } ∧ Fr h₀ L h' m ∧ News h₀ L h' ((I, oI) :: (C, oC) :: (D, LCg.lst ys) :: nw) ∧ (∀ p ∈ nw, p.1 ≠ I ∧ p.1 ≠ C ∧ p.1 ≠ D) ∧ (∀ p ∈ news, p ∈ nw) ∧ K (i + 1) (ys ++ [y]) nw
def TurnOf (prog : Program) (w : World) (A : Around) (h₀ : Heap) (L : Addr) (m : Str → Option Value) (env : Env) (elt : Expr) (x : Str) (scope : Scope) (cl : List (Str × Addr)) (s : Shared) (its : Array Value) (news : Led) (K : Nat → List Value → Led → Prop) : Prop :=
  ∀ i v ys nw I oI C oC D m₂ h tk (E' : Value → Shared → Prop), its[i]? = some v → ys.length = i → K i ys nw → (∀ p ∈ news, p ∈ nw) → oI.cls = .type "list_iterator" → LCg.NsObj oC m₂ → m₂ x = some v → Fr h₀ L h m → News h₀ L h ((I, oI) :: (C, oC) :: (D, LCg.lst ys) :: nw) → (∀ p ∈ nw, p.1 ≠ I ∧ p.1 ≠ C ∧ p.1 ≠ D) → I ≠ C → I ≠ D → C ≠ D →
    wpAny (model prog w) A (eval elt (compEnvC scope cl C env)) (TurnEnd h₀ L m news K I oI C oC D i ys { s with heap := h, toks := tk }) E' { s with heap := h, toks := tk }
section
variable {prog : Program} {w : World} {A : Around} {E : Value → Shared → Prop} {h₀ : Heap} {L : Addr} {m : Str → Option Value} {env : Env}
local macro_rules | `(tactic| walk_at "NTnm") => `(tactic| first | lia | exact Nat.ne_of_lt (by lia) | exact Nat.ne_of_gt (by lia) | (refine Nat.ne_of_lt ?_; simp only; lia) | (refine Nat.ne_of_gt ?_; simp only; lia))
theorem comp_run {elt iter : Expr} {x : Str} {px : Pos} {scope : Scope} {cl : List (Str × Addr)} {pos : Pos} {s₁ : Shared} {ax : Addr} {its : Array Value} {k : Nat} {news : Led} {K : Nat → List Value → Led → Prop} {RR : Value → Addr → Result → Shared → Prop}
    (hh : A.handled = none) (F : Fr h₀ L s₁.heap m) (N : News h₀ L s₁.heap news) (hm : (ax, ({ cls := .type "list", data := .seq its k } : Obj)) ∈ news) (hsz : its.size ≤ sizeLine)
    (hcell : ∀ y ∈ scope.names, y.2 ≠ .cell) (hkind : scope.kind = .function) (hx : scope.names.lookup x = some .local) (k0 : K 0 [] news)
    (turn : ∀ g, TurnOf prog w A h₀ L m env elt x scope cl { s₁ with heap := g } its news K)
    (fin : ∀ D C h tk m' ys nw, ys.length = its.size → K its.size ys nw → (∀ p ∈ news, p ∈ nw) → Fr h₀ L h m → News h₀ L h ((D, LCg.lst ys) :: nw) → (∀ p ∈ nw, p.1 ≠ D) → h.Ns C m' → h₀.get? C = none → C ≠ L → C ≠ D → (∀ p ∈ nw, p.1 ≠ C) → RR (.ref D) C (.ok .next) { s₁ with heap := h, toks := tk }) :
    wpAny (model prog w) A (pyIter (.ref ax)) (fun it s₂ => wpAny (model prog w) A (newList []) (fun acc s₃ =>
      wpAny (model prog w) A (newFunctionEnv scope env.globals cl [] env.qual none .none (some env)) (fun cenv s₄ =>
        codeAny (model prog w) A (.compStart (.ListComp elt [⟨.Name x px, iter, [], 0⟩] scope pos) 0 it acc { cenv with scope := relabel scope env }) (RR acc cenv.locals) s₄) E s₃) E s₂) E s₁ := by
  have hl : s₁.heap.IsList ax its := ⟨_, N.get hm, rfl, _, rfl⟩
  have hlt : ax < s₁.heap.objs.size := by obtain ⟨_, e, _⟩ := hl; exact Heap.lt_size e
  refine wpAny_pyIter_list hl ?_
  refine wpAny_newObj_type (wpAny_newFunctionEnv hcell (by intro y hy; simp at hy) (fun h1 n1 c1 => ?_) hkind)
  dsimp only at n1 c1 ⊢
  generalize eI : s₁.heap.objs.size = I at n1 c1 ⊢
  generalize e2 : (s₁.heap.push { cls := .type "list_iterator", data := .fields #[.ref ax, .int 0 0] }) = H2 at n1 c1 ⊢
  generalize e3 : (H2.push { cls := .type "list", dict := none, data := .seq ([] : List Value).toArray }) = H3 at n1 c1 ⊢
  have z2 : H2.objs.size = I + 1 := by rw [← e2, Heap.size_push, eI]
  have z3 : H3.objs.size = I + 2 := by rw [← e3, Heap.size_push, z2]
  have up2 : ∀ b o, s₁.heap.get? b = some o → H2.get? b = some o := fun b o e => e2 ▸ Heap.get?_push_of_some _ e
  have up3 : ∀ b o, H2.get? b = some o → H3.get? b = some o := fun b o e => e3 ▸ Heap.get?_push_of_some _ e
  have up1 : ∀ b o, b ≠ H3.objs.size → H3.get? b = some o → h1.get? b = some o := fun b o hb e => c1.extBut b o hb (Heap.get?_push_of_some _ e)
  have old : ∀ b o, s₁.heap.get? b = some o → h1.get? b = some o := fun b o e => up1 b o (by have q : @LT.lt Nat _ b s₁.heap.objs.size := Heap.lt_size e; walk_at "NTnm") (up3 _ _ (up2 _ _ e))
  have hI : h1.get? I = some { cls := .type "list_iterator", data := .fields #[.ref ax, .int 0 0] } := up1 _ _ (by walk_at "NTnm") (up3 _ _ (by rw [← e2, ← eI]; exact Heap.get?_push_size _ rfl))
  have hD : h1.get? H2.objs.size = some (LCg.lst []) := up1 _ _ (by walk_at "NTnm") (by rw [← e3]; exact Heap.get?_push_size _ rfl)
  have hL : @LT.lt Nat _ L I := by rw [← eI]; exact F.ns.lt
  have hxa : @LT.lt Nat _ ax I := by rw [← eI]; exact hlt
  have h0 : ∀ a : Addr, @LE.le Nat _ I a → h₀.get? a = none := fun a ha => Heap.get?_none_of_le (Nat.le_trans F.above (Nat.le_trans (Nat.le_of_lt hL) ha))
  have below : ∀ p ∈ news, @LT.lt Nat _ p.1 I := fun p hp => by rw [← eI]; exact Heap.lt_size (N p hp).1
  have go : ∀ s₂ : Shared, s₂ = { s₁ with heap := h1, toks := s₁.toks + ([] : List (Str × Value)).length } →
      codeAny (model prog w) A (.compLoop (.ListComp elt [⟨.Name x px, iter, [], 0⟩] scope pos) 0 (.ref I) (.ref H2.objs.size) (compEnvC scope cl H3.objs.size env)) (RR (.ref H2.objs.size) H3.objs.size) s₂ := by
    rintro s₂ rfl
    refine comp_go (s := s₁) (ax := ax) (its := its) (fun i ys h => ∃ nw, Fr h₀ L h m ∧ News h₀ L h nw ∧ (∀ p ∈ nw, p.1 ≠ I ∧ p.1 ≠ H3.objs.size ∧ p.1 ≠ H2.objs.size) ∧ (∀ p ∈ news, p ∈ nw) ∧ K i ys nw)
      hh hkind hx (by walk_at "NTnm") (by walk_at "NTnm") (by walk_at "NTnm") (by walk_at "NTnm") (by walk_at "NTnm") (by walk_at "NTnm") hsz ?_ ?_ ?_ ⟨news, F.keeps old, N.grown old, fun p hp => ?_, fun _ hp => hp, k0⟩ ⟨_, hI, rfl, rfl⟩ ⟨_, old _ _ (N.get hm), rfl, _, rfl⟩ n1 hD
    · rintro i ys h h' ⟨nw, F', N', off, sub, hK⟩ keep
      refine ⟨nw, ⟨F'.ns.at' fun o e => keep L o (by walk_at "NTnm") (by walk_at "NTnm") (by walk_at "NTnm") e, fun b o e => keep b o ?_ ?_ ?_ (F'.keep b o e), F'.above⟩, fun p hp => ⟨keep _ _ (off p hp).1 (off p hp).2.1 (off p hp).2.2 (N' p hp).1, (N' p hp).2⟩, off, sub, hK⟩
      all_goals (rintro rfl; rw [h0 _ (by walk_at "NTnm")] at e; cases e)
    · rintro i v ys h tk m' E' hv hy ⟨nw, F', N', off, sub, hK⟩ it l n hx' d
      obtain ⟨oI, eo, rI, dI⟩ := it
      obtain ⟨oC, eC, rC⟩ := LCg.ns_obj n
      refine wpAny_mono (turn s₁.heap i v ys nw I oI H3.objs.size oC H2.objs.size m' h tk E' hv hy hK sub rI rC hx' F' (fun p hp => ?_) off (by walk_at "NTnm") (by walk_at "NTnm") (by walk_at "NTnm")) (fun y s₃ q => ?_) fun _ _ e => e
      · rcases List.mem_cons.mp hp with rfl | hp
        · exact ⟨eo, by walk_at "NTnm", h0 _ (by walk_at "NTnm")⟩
        rcases List.mem_cons.mp hp with rfl | hp
        · exact ⟨eC, by walk_at "NTnm", h0 _ (by walk_at "NTnm")⟩
        rcases List.mem_cons.mp hp with rfl | hp
        · exact ⟨d, by walk_at "NTnm", h0 _ (by walk_at "NTnm")⟩
        · exact N' p hp
      · obtain ⟨h', tk', nw', rfl, F3, N3, off3, sub3, K3⟩ := q
        refine ⟨h', tk', m', rfl, ⟨nw', F3, fun p hp => N3 p (List.mem_cons_of_mem _ (List.mem_cons_of_mem _ (List.mem_cons_of_mem _ hp))), off3, sub3, K3⟩, ⟨oI, (N3 _ List.mem_cons_self).1, rI, dI⟩, ?_, rC.ns (N3 _ (List.mem_cons_of_mem _ List.mem_cons_self)).1, (N3 _ (List.mem_cons_of_mem _ (List.mem_cons_of_mem _ List.mem_cons_self))).1⟩
        exact ⟨_, (N3 _ (List.mem_cons_of_mem _ (List.mem_cons_of_mem _ (List.mem_cons_of_mem _ (sub3 _ hm))))).1, rfl, _, rfl⟩
    · rintro ys h tk m' hy ⟨nw, F', N', off, sub, hK⟩ n d
      refine fin _ _ h tk m' ys nw hy hK sub F' (fun p hp => ?_) (fun p hp => (off p hp).2.2) n (h0 _ (by walk_at "NTnm")) (by walk_at "NTnm") (by walk_at "NTnm") (fun p hp => (off p hp).2.1)
      rcases List.mem_cons.mp hp with rfl | hp
      · exact ⟨d, by walk_at "NTnm", h0 _ (by walk_at "NTnm")⟩
      · exact N' p hp
    · have := below p hp
      exact ⟨by walk_at "NTnm", by walk_at "NTnm", by walk_at "NTnm"⟩
  exact codeAny_compStart_list (go _ rfl) (wpAny_pyIter_listiter ⟨_, hI, rfl, rfl⟩ (go _ rfl))
end
end NT
namespace NT
section
variable {prog : Program} {w : World} {A : Around} {E : Value → Shared → Prop} {s : Shared} {h₀ : Heap} {L : Addr} {m : Str → Option Value} {env : Env}
/-- a comprehension's source: a list of the ledger -/
def SrcOf (prog : Program) (w : World) (A : Around) (h₀ : Heap) (L : Addr) (m : Str → Option Value) (env : Env) (elt : Expr) (x : Str) (scope : Scope) (cl : List (Str × Addr)) (Fin : Shared → List Value → Led → Prop) (xv : Value) (s₁ : Shared) : Prop :=
  ∃ ax its k news K, xv = .ref ax ∧ A.handled = none ∧ Fr h₀ L s₁.heap m ∧ News h₀ L s₁.heap news ∧ (ax, ({ cls := .type "list", data := .seq its k } : Obj)) ∈ news ∧ its.size ≤ sizeLine ∧ K 0 [] news ∧
    (∀ g, TurnOf prog w A h₀ L m env elt x scope cl { s₁ with heap := g } its news K) ∧ ∀ ys nw, ys.length = its.size → K its.size ys nw → (∀ p ∈ news, p ∈ nw) → Fin s₁ ys nw
def FinEv (h₀ : Heap) (L : Addr) (m : Str → Option Value) (Q : Value → Shared → Prop) (s : Shared) (ys : List Value) (nw : Led) : Prop :=
  ∀ D h tk, Fr h₀ L h m → News h₀ L h ((D, LCg.lst ys) :: nw) → (∀ p ∈ nw, p.1 ≠ D) → Q (.ref D) { s with heap := h, toks := tk }
def FinAs (h₀ : Heap) (L : Addr) (m : Str → Option Value) (y : Str) (Q : Flow → Shared → Prop) (s : Shared) (ys : List Value) (nw : Led) : Prop :=
  ∀ D h tk, Fr h₀ L h (fun z => if z = y then some (.ref D) else m z) → News h₀ L h ((D, LCg.lst ys) :: nw) → (∀ p ∈ nw, p.1 ≠ D) → Q .next { s with heap := h, toks := tk }
theorem comp_eval {elt iter : Expr} {x : Str} {px : Pos} {scope : Scope} {cl : List (Str × Addr)} {pos : Pos} {Q : Value → Shared → Prop} (_F : Fr h₀ L s.heap m)
    (hclos : closureFor scope env = pure cl) (hcell : ∀ y ∈ scope.names, y.2 ≠ .cell) (hkind : scope.kind = .function)
    (hnames : ∀ y ∈ scope.names, y.2 = .local → scope.names.lookup y.1 = some .local) (hx : scope.names.lookup x = some .local)
    (h : wpAny (model prog w) A (eval iter env) (SrcOf prog w A h₀ L m env elt x scope cl (FinEv h₀ L m Q)) E s)
    (hs : ∀ x, foldedSetIterable iter env x = pure x := by intro _; rfl) :
    wpAny (model prog w) A (eval (.ListComp elt [⟨.Name x px, iter, [], 0⟩] scope pos) env) Q E s := by
  rw [eval_ListComp]
  refine wpAny_comprehension_free (use := none) rfl hs hclos hkind hnames (wpAny_mono h (fun xv s₁ q => ?_) fun _ _ e => e)
  obtain ⟨ax, its, k, news, K, rfl, hh, F, N, hm, hsz, k0, turn, fin⟩ := q
  refine comp_run hh F N hm hsz hcell hkind hx k0 turn fun D C h' tk m' ys nw hy hK sub F' N' off n hC₀ hCL hCD offC => ?_
  refine ⟨m', n, fun h2 c2 => fin ys nw hy hK sub D h2 tk (F'.change c2 hCL hC₀) (fun p hp => ⟨c2.extBut _ _ ?_ (N' p hp).1, (N' p hp).2⟩) off⟩
  rcases List.mem_cons.mp hp with rfl | hp
  · exact Ne.symm hCD
  · exact offC p hp
theorem comp_assign {elt iter : Expr} {x y : Str} {px py : Pos} {scope : Scope} {cl : List (Str × Addr)} {pos spos : Pos} {Q : Flow → Shared → Prop} (F₀ : Fr h₀ L s.heap m) (hLe : env.locals = L)
    (hsw : swapsWith (.ListComp elt [⟨.Name x px, iter, [], 0⟩] scope pos) (some (.Name y py)) spos.line env = pure true)
    (hclos : closureFor scope env = pure cl) (hcell : ∀ z ∈ scope.names, z.2 ≠ .cell) (hkind : scope.kind = .function)
    (hnames : ∀ z ∈ scope.names, z.2 = .local → scope.names.lookup z.1 = some .local) (hx : scope.names.lookup x = some .local)
    (hy : env.kindOf y = some .local) (hp : (env.scope.kind == .class || (env.scope.kind == .module && env.locals != env.globals)) = false)
    (h : wpAny (model prog w) A (eval iter env) (SrcOf prog w A h₀ L m env elt x scope cl (FinAs h₀ L m y Q)) E s)
    (hs : ∀ x, foldedSetIterable iter env x = pure x := by intro _; rfl) :
    wpAny (model prog w) A (exec (.Assign [.Name y py] (.ListComp elt [⟨.Name x px, iter, [], 0⟩] scope pos) spos) env) Q E s := by
  subst hLe
  rw [exec_Assign_Name_used _ _ _ _ hsw]
  refine wpAny_bind (wpAny_standAt (wpAny_bind ?_))
  show wpAny _ A (do let _ ← comprehension (.ListComp elt [⟨.Name x px, iter, [], 0⟩] scope pos) scope env _ (newList []) false (eval iter env) (some (assign (.Name y py) env))) _ _ s
  refine wpAny_bind (wpAny_mono (wpAny_comprehension_free (use := some (assign (.Name y py) env)) (Q := fun _ s' => Q .next s') rfl hs hclos hkind hnames
    (wpAny_mono h (fun xv s₁ q => ?_) fun _ _ e => e)) (fun _ s' hq => wpAny_pure (wpAny_pure hq)) fun _ _ e => e)
  obtain ⟨ax, its, k, news, K, rfl, hh, F, N, hm, hsz, k0, turn, fin⟩ := q
  refine comp_run hh F N hm hsz hcell hkind hx k0 turn fun D C h' tk m' ys nw hy' hK sub F' N' off n hC₀ hCL hCD offC => ?_
  show wpAny _ A (assign (.Name y py) env (.ref D)) _ _ _
  refine wpAny_assign_Name (wpAny_storeName_local hy F'.ns (fun h2 n2 c2 => ?_) hp)
  have hL₀ : h₀.get? env.locals = none := Heap.get?_none_of_le F'.above
  have F2 : Fr h₀ env.locals h2 (fun z => if z = y then some (.ref D) else m z) := ⟨n2, fun b o e => c2.extBut b o (fun q => by rw [q, hL₀] at e; cases e) (F'.keep b o e), F'.above⟩
  refine ⟨m', n.sameBut c2 hCL, fun h3 c3 => fin ys nw hy' hK sub D h3 _ (F2.change c3 hCL hC₀) (fun p hp => ⟨c3.extBut _ _ ?_ (c2.extBut _ _ (N' p hp).2.1 (N' p hp).1), (N' p hp).2⟩) off⟩
  rcases List.mem_cons.mp hp with rfl | hp
  · exact Ne.symm hCD
  · exact offC p hp
end
/-! what of a callee's ledger stands off a comprehension's own things -/
section
variable {h₀ h : Heap} {L I C D : Addr} {tl nw : Led} {oI oC : Obj} {ys : List Value} {m₂ : Str → Option Value} {x : Str} {v : Value}
theorem obj_one (N : News h₀ L h tl) {a : Addr} {o o' : Obj} (h1 : (a, o) ∈ tl) (h2 : (a, o') ∈ tl) : o = o' := by
  have := (N _ h1).1.symm.trans (N _ h2).1
  exact Option.some.inj this
theorem off_list (N : News h₀ L h (tl ++ (I, oI) :: (C, oC) :: (D, LCg.lst ys) :: nw)) (hI : oI.cls = .type "list_iterator") (hC : LCg.NsObj oC m₂) {a : Addr} {vs : List Value} (hn : ys.length < vs.length) (ha : (a, lisOf vs) ∈ tl) : a ≠ I ∧ a ≠ C ∧ a ≠ D := by
  have m1 : (I, oI) ∈ tl ++ (I, oI) :: (C, oC) :: (D, LCg.lst ys) :: nw := List.mem_append.mpr (.inr (by simp))
  have m2 : (C, oC) ∈ tl ++ (I, oI) :: (C, oC) :: (D, LCg.lst ys) :: nw := List.mem_append.mpr (.inr (by simp))
  have m3 : (D, LCg.lst ys) ∈ tl ++ (I, oI) :: (C, oC) :: (D, LCg.lst ys) :: nw := List.mem_append.mpr (.inr (by simp))
  have ma : (a, lisOf vs) ∈ tl ++ (I, oI) :: (C, oC) :: (D, LCg.lst ys) :: nw := List.mem_append.mpr (.inl ha)
  refine ⟨?_, ?_, ?_⟩
  · rintro rfl
    have := obj_one N ma m1
    rw [← this] at hI; simp at hI
  · rintro rfl
    obtain ⟨es, ep, hd, _⟩ := hC
    rw [← obj_one N ma m2] at hd
    cases hd
  · rintro rfl
    have e := congrArg (fun o : Obj => match o.data with | .seq a _ => a.size | _ => 0) (obj_one N ma m3)
    simp only [List.size_toArray] at e
    lia
theorem off_plain (N : News h₀ L h (tl ++ (I, oI) :: (C, oC) :: (D, LCg.lst ys) :: nw)) (hI : oI.cls = .type "list_iterator") (hC : LCg.NsObj oC m₂) {a k dx : Addr} (ha : (a, instObj k dx) ∈ tl) : a ≠ I ∧ a ≠ C ∧ a ≠ D := by
  have m1 : (I, oI) ∈ tl ++ (I, oI) :: (C, oC) :: (D, LCg.lst ys) :: nw := List.mem_append.mpr (.inr (by simp))
  have m2 : (C, oC) ∈ tl ++ (I, oI) :: (C, oC) :: (D, LCg.lst ys) :: nw := List.mem_append.mpr (.inr (by simp))
  have m3 : (D, LCg.lst ys) ∈ tl ++ (I, oI) :: (C, oC) :: (D, LCg.lst ys) :: nw := List.mem_append.mpr (.inr (by simp))
  have ma : (a, instObj k dx) ∈ tl ++ (I, oI) :: (C, oC) :: (D, LCg.lst ys) :: nw := List.mem_append.mpr (.inl ha)
  refine ⟨?_, ?_, ?_⟩
  · rintro rfl
    rw [← obj_one N ma m1] at hI; cases hI
  · rintro rfl
    obtain ⟨es, ep, hd, _⟩ := hC
    rw [← obj_one N ma m2] at hd
    cases hd
  · rintro rfl
    have e := congrArg Obj.data (obj_one N ma m3)
    cases e
theorem off_dict (N : News h₀ L h (tl ++ (I, oI) :: (C, oC) :: (D, LCg.lst ys) :: nw)) (hI : oI.cls = .type "list_iterator") (hC : LCg.NsObj oC m₂) (hx : m₂ x = some v) {a : Addr} {n1 n2 : Str} {t1 t2 : Tok} {h1 h2 : Int} {v1 v2 : Value}
    (g1 : (n1 == x) = false) (g2 : (n2 == x) = false) (ha : (a, dictOf [⟨h1, .str n1 t1, v1⟩, ⟨h2, .str n2 t2, v2⟩] 2) ∈ tl) : a ≠ I ∧ a ≠ C ∧ a ≠ D := by
  have m1 : (I, oI) ∈ tl ++ (I, oI) :: (C, oC) :: (D, LCg.lst ys) :: nw := List.mem_append.mpr (.inr (by simp))
  have m2 : (C, oC) ∈ tl ++ (I, oI) :: (C, oC) :: (D, LCg.lst ys) :: nw := List.mem_append.mpr (.inr (by simp))
  have m3 : (D, LCg.lst ys) ∈ tl ++ (I, oI) :: (C, oC) :: (D, LCg.lst ys) :: nw := List.mem_append.mpr (.inr (by simp))
  have ma := List.mem_append_left ((I, oI) :: (C, oC) :: (D, LCg.lst ys) :: nw) ha
  refine ⟨?_, ?_, ?_⟩
  · rintro rfl
    rw [← obj_one N ma m1] at hI; simp at hI
  · rintro rfl
    obtain ⟨es, ep, hd, _, hf⟩ := hC
    rw [← obj_one N ma m2] at hd
    have := hf x
    rw [hx] at this
    cases hd
    simp [nsFind, findBy, Value.isStr, g1, g2] at this
  · rintro rfl
    have e := congrArg Obj.data (obj_one N ma m3)
    cases e
theorem off_num (N : News h₀ L h (tl ++ (I, oI) :: (C, oC) :: (D, LCg.lst ys) :: nw)) (hI : oI.cls = .type "list_iterator") (hC : LCg.NsObj oC m₂) (hx : m₂ x = some v)
    (g1 : (Str.ofString "top" == x) = false) (g2 : (Str.ofString "bottom" == x) = false) (g3 : (Str.ofString "mantissa" == x) = false) (g4 : (Str.ofString "exponent" == x) = false) {r : Value} {z : Num} (hr : NumIn tl r z) :
    ∃ ps : Led, NumIn ps r z ∧ (∀ p ∈ ps, p ∈ tl) ∧ ∀ p ∈ ps, p.1 ≠ I ∧ p.1 ≠ C ∧ p.1 ≠ D := by
  cases hr with
  | whole => exact ⟨[], .whole, fun _ h => by simp at h, fun _ h => by simp at h⟩
  | @ratio x1 x2 t b h1 h2 t1 u1 t2 u2 a b' =>
    refine ⟨[(x1, instObj 264 x2), (x2, dictOf [⟨h1, .str (Str.ofString "top") t1, .int t u1⟩, ⟨h2, .str (Str.ofString "bottom") t2, .int b u2⟩] 2)], .ratio List.mem_cons_self (List.mem_cons_of_mem _ List.mem_cons_self), fun p hp => ?_, fun p hp => ?_⟩
    · rcases List.mem_cons.mp hp with rfl | hp
      · exact a
      · rcases List.mem_cons.mp hp with rfl | hp
        · exact b'
        · simp at hp
    · rcases List.mem_cons.mp hp with rfl | hp
      · exact off_plain N hI hC a
      · rcases List.mem_cons.mp hp with rfl | hp
        · exact off_dict N hI hC hx g1 g2 b'
        · simp at hp
  | @real x1 x2 t b h1 h2 t1 u1 t2 u2 a b' =>
    refine ⟨[(x1, instObj 96 x2), (x2, dictOf [⟨h1, .str (Str.ofString "mantissa") t1, .int t u1⟩, ⟨h2, .str (Str.ofString "exponent") t2, .int b u2⟩] 2)], .real List.mem_cons_self (List.mem_cons_of_mem _ List.mem_cons_self), fun p hp => ?_, fun p hp => ?_⟩
    · rcases List.mem_cons.mp hp with rfl | hp
      · exact a
      · rcases List.mem_cons.mp hp with rfl | hp
        · exact b'
        · simp at hp
    · rcases List.mem_cons.mp hp with rfl | hp
      · exact off_plain N hI hC a
      · rcases List.mem_cons.mp hp with rfl | hp
        · exact off_dict N hI hC hx g3 g4 b'
        · simp at hp
/-- a turn's end when the callee handed a number back -/
theorem TurnEnd.num {news : Led} {K : Nat → List Value → Led → Prop} {i : Nat} {s₁ : Shared} {m : Str → Option Value} {h' : Heap} {tk : Nat} (hI : oI.cls = .type "list_iterator") (hC : LCg.NsObj oC m₂) (hx : m₂ x = some v)
    (F : Fr h₀ L h' m) (N : News h₀ L h' (tl ++ (I, oI) :: (C, oC) :: (D, LCg.lst ys) :: nw)) (off : ∀ p ∈ nw, p.1 ≠ I ∧ p.1 ≠ C ∧ p.1 ≠ D) (sub : ∀ p ∈ news, p ∈ nw) {r : Value} {z : Num} (hr : NumIn tl r z)
    (hk : ∀ nw', (∀ p ∈ nw, p ∈ nw') → NumIn nw' r z → K (i + 1) (ys ++ [r]) nw')
    (g1 : (Str.ofString "top" == x) = false := by decide) (g2 : (Str.ofString "bottom" == x) = false := by decide) (g3 : (Str.ofString "mantissa" == x) = false := by decide) (g4 : (Str.ofString "exponent" == x) = false := by decide) :
    TurnEnd h₀ L m news K I oI C oC D i ys s₁ r { s₁ with heap := h', toks := tk } := by
  obtain ⟨ps, h1, h2, h3⟩ := off_num N hI hC hx g1 g2 g3 g4 hr
  refine ⟨h', tk, ps ++ nw, rfl, F, fun p hp => N p ?_, fun p hp => (List.mem_append.mp hp).elim (h3 p) (off p), fun p hp => List.mem_append.mpr (.inr (sub p hp)), hk _ (fun p hp => List.mem_append.mpr (.inr hp)) (h1.mono fun p hp => List.mem_append.mpr (.inl hp))⟩
  rcases List.mem_cons.mp hp with rfl | hp
  · exact List.mem_append.mpr (.inr (by simp))
  rcases List.mem_cons.mp hp with rfl | hp
  · exact List.mem_append.mpr (.inr (by simp))
  rcases List.mem_cons.mp hp with rfl | hp
  · exact List.mem_append.mpr (.inr (by simp))
  rcases List.mem_append.mp hp with hp | hp
  · exact List.mem_append.mpr (.inl (h2 p hp))
  · exact List.mem_append.mpr (.inr (by simp [hp]))
/-- the same when it handed a list back -/
theorem TurnEnd.list {news : Led} {K : Nat → List Value → Led → Prop} {i : Nat} {s₁ : Shared} {m : Str → Option Value} {h' : Heap} {tk : Nat} (hI : oI.cls = .type "list_iterator") (hC : LCg.NsObj oC m₂)
    (F : Fr h₀ L h' m) (N : News h₀ L h' (tl ++ (I, oI) :: (C, oC) :: (D, LCg.lst ys) :: nw)) (off : ∀ p ∈ nw, p.1 ≠ I ∧ p.1 ≠ C ∧ p.1 ≠ D) (sub : ∀ p ∈ news, p ∈ nw) {a : Addr} {vs : List Value} (hn : ys.length < vs.length) (ha : (a, lisOf vs) ∈ tl)
    (hk : K (i + 1) (ys ++ [.ref a]) ((a, lisOf vs) :: nw)) :
    TurnEnd h₀ L m news K I oI C oC D i ys s₁ (.ref a) { s₁ with heap := h', toks := tk } := by
  refine ⟨h', tk, (a, lisOf vs) :: nw, rfl, F, fun p hp => N p ?_, fun p hp => (List.mem_cons.mp hp).elim (fun e => e ▸ off_list N hI hC hn ha) (off p), fun p hp => List.mem_cons_of_mem _ (sub p hp), hk⟩
  rcases List.mem_cons.mp hp with rfl | hp
  · exact List.mem_append.mpr (.inr (by simp))
  rcases List.mem_cons.mp hp with rfl | hp
  · exact List.mem_append.mpr (.inr (by simp))
  rcases List.mem_cons.mp hp with rfl | hp
  · exact List.mem_append.mpr (.inr (by simp))
  rcases List.mem_cons.mp hp with rfl | hp
  · exact List.mem_append.mpr (.inl ha)
  · exact List.mem_append.mpr (.inr (by simp [hp]))
end
end NT
namespace NT
section
variable {prog : Program} {w : World} {A : Around} {h₀ : Heap} {L : Addr} {m : Str → Option Value} {env : Env} {elt : Expr} {x : Str} {scope : Scope} {cl : List (Str × Addr)} {Fin : Shared → List Value → Led → Prop} {s₁ : Shared}
/-- a comprehension over a list of two numbers, its turn once for both -/
theorem SrcOf.two {ax : Addr} {v1 v2 : Value} {news : Led} {kk : Nat} (P : Led → Value → Num → Prop) (Z : Num → Prop) (z1 z2 : Num) (Pm : ∀ nw nw' r z, P nw r z → (∀ p ∈ nw, p ∈ nw') → P nw' r z)
    (hh : A.handled = none) (F : Fr h₀ L s₁.heap m) (N : News h₀ L s₁.heap news) (hm : (ax, lisK [v1, v2] kk) ∈ news) (n1 : NumIn news v1 z1) (n2 : NumIn news v2 z2) (hz1 : Z z1) (hz2 : Z z2)
    (turn : ∀ v z i ys nw I oI C oC D m₂ h tk (E' : Value → Shared → Prop), Z z → NumIn (nw ++ news) v z → ys.length < 2 → (∀ p ∈ news, p ∈ nw ++ news) → oI.cls = .type "list_iterator" → LCg.NsObj oC m₂ → m₂ x = some v → Fr h₀ L h m → News h₀ L h ((I, oI) :: (C, oC) :: (D, LCg.lst ys) :: (nw ++ news)) → (∀ p ∈ nw ++ news, p.1 ≠ I ∧ p.1 ≠ C ∧ p.1 ≠ D) → I ≠ C → I ≠ D → C ≠ D →
      wpAny (model prog w) A (eval elt (compEnvC scope cl C env)) (TurnEnd h₀ L m news (fun _ ys' nw' => ∃ r, ys' = ys ++ [r] ∧ P nw' r z ∧ ∀ p ∈ nw ++ news, p ∈ nw') I oI C oC D i ys { s₁ with heap := h, toks := tk }) E' { s₁ with heap := h, toks := tk })
    (fin : ∀ r1 r2 nw, P nw r1 z1 → P nw r2 z2 → (∀ p ∈ news, p ∈ nw) → Fin s₁ [r1, r2] nw) :
    SrcOf prog w A h₀ L m env elt x scope cl Fin (.ref ax) s₁ := by
  refine ⟨ax, [v1, v2].toArray, _, news, fun i ys nw => (i = 0 ∧ ys = []) ∨ (i = 1 ∧ ∃ r1, ys = [r1] ∧ P nw r1 z1) ∨ (i = 2 ∧ ∃ r1 r2, ys = [r1, r2] ∧ P nw r1 z1 ∧ P nw r2 z2), rfl, hh, F, N, hm, by rw [PySem.sizeLine_eq]; simp, .inl ⟨rfl, rfl⟩, ?_, ?_⟩
  · intro g i v ys nw I oI C oC D m₂ h tk E' hv hy hK sub hI hC hx F' N' off a1 a2 a3
    have M : ∀ p ∈ nw ++ news, p ∈ nw := fun p hp => (List.mem_append.mp hp).elim id (sub p)
    have N2 : News h₀ L h ((I, oI) :: (C, oC) :: (D, LCg.lst ys) :: (nw ++ news)) := fun p hp => by
      rcases List.mem_cons.mp hp with rfl | hp
      · exact N' _ List.mem_cons_self
      rcases List.mem_cons.mp hp with rfl | hp
      · exact N' _ (List.mem_cons_of_mem _ List.mem_cons_self)
      rcases List.mem_cons.mp hp with rfl | hp
      · exact N' _ (List.mem_cons_of_mem _ (List.mem_cons_of_mem _ List.mem_cons_self))
      · exact N' _ (List.mem_cons_of_mem _ (List.mem_cons_of_mem _ (List.mem_cons_of_mem _ (M p hp))))
    have sub2 : ∀ p ∈ news, p ∈ nw ++ news := fun p hp => List.mem_append.mpr (.inr hp)
    rcases hK with ⟨rfl, rfl⟩ | ⟨rfl, r1, rfl, p1⟩ | ⟨rfl, r1, r2, rfl, _, _⟩
    · have e : v1 = v := by simpa using hv
      subst e
      refine wpAny_mono (turn v1 z1 0 [] nw I oI C oC D m₂ h tk E' hz1 (n1.mono sub2) (by simp) sub2 hI hC hx F' N2 (fun p hp => off p (M p hp)) a1 a2 a3) (fun y s2 q => ?_) fun _ _ e => e
      obtain ⟨h', tk', nw', e, F3, N3, off3, sub3, r, e4, p4, s4⟩ := q
      exact ⟨h', tk', nw', e, F3, N3, off3, sub3, .inr (.inl ⟨rfl, r, e4, p4⟩)⟩
    · have e : v2 = v := by simpa using hv
      subst e
      refine wpAny_mono (turn v2 z2 1 [r1] nw I oI C oC D m₂ h tk E' hz2 (n2.mono sub2) (by simp) sub2 hI hC hx F' N2 (fun p hp => off p (M p hp)) a1 a2 a3) (fun y s2 q => ?_) fun _ _ e => e
      obtain ⟨h', tk', nw', e, F3, N3, off3, sub3, r, e4, p4, s4⟩ := q
      exact ⟨h', tk', nw', e, F3, N3, off3, sub3, .inr (.inr ⟨rfl, r1, r, e4, Pm _ _ _ _ p1 (fun p hp => s4 p (List.mem_append.mpr (.inl hp))), p4⟩)⟩
    · simp at hv
  · intro ys nw hy hK sub
    rcases hK with ⟨e, _⟩ | ⟨e, _⟩ | ⟨_, r1, r2, rfl, p1, p2⟩
    · simp at e
    · simp at e
    · exact fin r1 r2 nw p1 p2 sub
end
/-- what _law_shown hands back of an exact number -/
def ShownE (nw : Led) (r : Value) (z : Num) : Prop := ∃ a u0 u1 u2, r = .ref a ∧ (a, lisOf [.str (Str.ofString "exact") u0, .int z.top u1, .int z.bot u2]) ∈ nw
theorem ShownE.mono {nw nw' : Led} {r : Value} {z : Num} (h : ShownE nw r z) (hs : ∀ p ∈ nw, p ∈ nw') : ShownE nw' r z := let ⟨a, u0, u1, u2, e, hm⟩ := h; ⟨a, u0, u1, u2, e, hs _ hm⟩
end NT
namespace NT
theorem news_of3 {h₀ h : Heap} {L D a b : Addr} {o oa ob : Obj} {nw news : Led} (N : News h₀ L h ((D, o) :: nw)) (h1 : (a, oa) ∈ nw) (h2 : (b, ob) ∈ nw) (sub : ∀ p ∈ news, p ∈ nw) : News h₀ L h ((D, o) :: (a, oa) :: (b, ob) :: news) := fun p hp => by
  rcases List.mem_cons.mp hp with rfl | hp
  · exact N _ List.mem_cons_self
  rcases List.mem_cons.mp hp with rfl | hp
  · exact N _ (List.mem_cons_of_mem _ h1)
  rcases List.mem_cons.mp hp with rfl | hp
  · exact N _ (List.mem_cons_of_mem _ h2)
  · exact N _ (List.mem_cons_of_mem _ (sub p hp))
theorem news_app {h₀ h : Heap} {L D : Addr} {o : Obj} {nw news : Led} (N : News h₀ L h ((D, o) :: nw)) (sub : ∀ p ∈ news, p ∈ nw) : News h₀ L h ((D, o) :: (nw ++ news)) := fun p hp => by
  rcases List.mem_cons.mp hp with rfl | hp
  · exact N _ List.mem_cons_self
  · exact N _ (List.mem_cons_of_mem _ ((List.mem_append.mp hp).elim id (sub p)))
/-- an inexact number nearest to z -/
def NearAt (p : Int) (nw : Led) (r : Value) (z : Num) : Prop := ∃ m e, NumIn nw r (.real m e) ∧ NearSpec p z.fT z.fB m e
/-- what _law_shown hands back of an inexact number -/
def ShownR (nw : Led) (r : Value) (z : Num) : Prop := ∃ m e a u0 u1 u2, z = .real m e ∧ r = .ref a ∧ (a, lisOf [.str (Str.ofString "real") u0, .int m u1, .int e u2]) ∈ nw
theorem ShownR.mono {nw nw' : Led} {r : Value} {z : Num} (h : ShownR nw r z) (hs : ∀ p ∈ nw, p ∈ nw') : ShownR nw' r z := let ⟨m, e, a, u0, u1, u2, e0, e1, hm⟩ := h; ⟨m, e, a, u0, u1, u2, e0, e1, hs _ hm⟩
end NT
end
section
open PySem PySem.Spec PySem.Calls PySem.W PyProof.Rows
namespace NT
section
variable {prog : Program} {w : World} {A : Around} {h₀ : Heap} {L : Addr} {m : Str → Option Value} {env : Env} {elt : Expr} {x : Str} {scope : Scope} {cl : List (Str × Addr)} {Fin : Shared → List Value → Led → Prop} {s₁ : Shared}
/-- a comprehension over a list of any length, its turn once for all; R tells of each value made -/
theorem SrcOf.each {ax : Addr} {vs : List Value} {news : Led} {kk : Nat} (R : Led → Value → Prop) (Rm : ∀ nw nw' r, R nw r → (∀ p ∈ nw, p ∈ nw') → R nw' r)
    (hh : A.handled = none) (F : Fr h₀ L s₁.heap m) (N : News h₀ L s₁.heap news) (hm : (ax, lisK vs kk) ∈ news) (hsz : vs.length ≤ 100)
    (turn : ∀ v i ys nw I oI C oC D m₂ h tk (E' : Value → Shared → Prop), v ∈ vs → (∀ p ∈ news, p ∈ nw ++ news) → oI.cls = .type "list_iterator" → LCg.NsObj oC m₂ → m₂ x = some v → Fr h₀ L h m → News h₀ L h ((I, oI) :: (C, oC) :: (D, LCg.lst ys) :: (nw ++ news)) → (∀ p ∈ nw ++ news, p.1 ≠ I ∧ p.1 ≠ C ∧ p.1 ≠ D) → I ≠ C → I ≠ D → C ≠ D →
      wpAny (model prog w) A (eval elt (compEnvC scope cl C env)) (TurnEnd h₀ L m news (fun _ ys' nw' => ∃ r, ys' = ys ++ [r] ∧ R nw' r ∧ ∀ p ∈ nw ++ news, p ∈ nw') I oI C oC D i ys { s₁ with heap := h, toks := tk }) E' { s₁ with heap := h, toks := tk })
    (fin : ∀ ys nw, ys.length = vs.length → (∀ r ∈ ys, R nw r) → (∀ p ∈ news, p ∈ nw) → Fin s₁ ys nw) :
    SrcOf prog w A h₀ L m env elt x scope cl Fin (.ref ax) s₁ := by
  refine ⟨ax, vs.toArray, _, news, fun _ ys nw => ∀ r ∈ ys, R nw r, rfl, hh, F, N, hm, by rw [PySem.sizeLine_eq, List.size_toArray]; lia, fun _ h => by simp at h, ?_, ?_⟩
  · intro g i v ys nw I oI C oC D m₂ h tk E' hv _ hK sub hI hC hx F' N' off a1 a2 a3
    have M : ∀ p ∈ nw ++ news, p ∈ nw := fun p hp => (List.mem_append.mp hp).elim id (sub p)
    have N2 : News h₀ L h ((I, oI) :: (C, oC) :: (D, LCg.lst ys) :: (nw ++ news)) := fun p hp => by
      rcases List.mem_cons.mp hp with rfl | hp
      · exact N' _ List.mem_cons_self
      rcases List.mem_cons.mp hp with rfl | hp
      · exact N' _ (List.mem_cons_of_mem _ List.mem_cons_self)
      rcases List.mem_cons.mp hp with rfl | hp
      · exact N' _ (List.mem_cons_of_mem _ (List.mem_cons_of_mem _ List.mem_cons_self))
      · exact N' _ (List.mem_cons_of_mem _ (List.mem_cons_of_mem _ (List.mem_cons_of_mem _ (M p hp))))
    have sub2 : ∀ p ∈ news, p ∈ nw ++ news := fun p hp => List.mem_append.mpr (.inr hp)
    have hmem : v ∈ vs := List.mem_of_getElem? (by simpa using hv)
    refine wpAny_mono (turn v i ys nw I oI C oC D m₂ h tk E' hmem sub2 hI hC hx F' N2 (fun p hp => off p (M p hp)) a1 a2 a3) (fun y s2 q => ?_) fun _ _ e => e
    obtain ⟨h', tk', nw', e, F3, N3, off3, sub3, r, e4, p4, s4⟩ := q
    refine ⟨h', tk', nw', e, F3, N3, off3, sub3, fun r' hr' => ?_⟩
    rw [e4] at hr'
    rcases List.mem_append.mp hr' with hr' | hr'
    · exact Rm _ _ _ (hK r' hr') fun p hp => s4 p (List.mem_append.mpr (.inl hp))
    · rw [List.mem_singleton.mp hr']; exact p4
  · intro ys nw hy hK sub
    exact fin ys nw (by rw [hy, List.size_toArray]) hK sub
end
theorem ints_of {nw : Led} : ∀ {ys : List Value}, (∀ r ∈ ys, ∃ n, NumIn nw r (.whole n)) → ∃ ms, IntsAre ys ms
  | [], _ => ⟨[], .nil⟩
  | y :: ys, h => by
    obtain ⟨ms, hm⟩ := ints_of fun r hr => h r (List.mem_cons_of_mem _ hr)
    obtain ⟨n, hn⟩ := h y List.mem_cons_self
    cases hn
    exact ⟨n :: ms, .cons n _ hm⟩
section
variable {prog : Program} {w : World} {A : Around} {E : Value → Shared → Prop} {s : Shared} {env : Env} {h₀ : Heap} {x : Str} {body : List Stmt} {Q : Flow → Shared → Prop}
/-- a loop over range(n) by an invariant of the frame's map; the ledger stays -/
theorem range_loop {L : Addr} {r : Addr} {n : Nat} {t u v : Tok} {m₀ : Str → Option Value} {news : List (Addr × Obj)} (J : (Str → Option Value) → Prop) (hLe : env.locals = L)
    (hh : A.handled = none) (hr : IsRange s.heap r 0 n 1 t u v) (hn : n ≤ 100) (F : Fr h₀ L s.heap m₀) (N : News h₀ L s.heap news) (hj : J m₀)
    (turn : ∀ (i : Nat) t m₁ h tk own, i < n → J m₁ → Fr h₀ L h (fun y => if y = x then some (.int i t) else m₁ y) → News h₀ L h (own ++ news) →
      wpAny (model prog w) A (execs body env) (InvPost h₀ L J (own ++ news) { s with heap := h, toks := tk } Q) E { s with heap := h, toks := tk })
    (done : ∀ m₁ h tk, J m₁ → Fr h₀ L h m₁ → News h₀ L h news → Q .next { s with heap := h, toks := tk }) :
    wpAny (model prog w) A (pyIter (.ref r)) (fun it s₂ => LoopAtV prog w A h₀ env x body Q E it s₂) E s := by
  subst hLe
  have hsm : Builtin.Range.small 0 n 1 = true := small_one (by lia) (by lia) (by lia) (by lia)
  have hsz : Builtin.Range.rangeSize 0 n 1 = n := by
    unfold Builtin.Range.rangeSize
    split <;> split <;> lia
  refine wpAny_pyIter_range hr hsm ?_
  have W := Walks.range (prog := prog) (w := w) hh s.heap.objs.size 0 1 n
  refine ⟨_, _, _, n, _, _, m₀, news, fun _ m₁ news₁ => news₁ = news ∧ J m₁, rfl, W, ?_, ?_, ?_, ?_, F.push _, fun p hp => ⟨Heap.get?_push_of_some _ (N p hp).1, (N p hp).2⟩, ⟨rfl, hj⟩, ?_, ?_⟩
  · intro hm
    exact absurd F.ns.lt ((List.mem_singleton.mp hm) ▸ Nat.lt_irrefl _)
  · intro b hb
    rw [List.mem_singleton.mp hb]
    exact next_is_new F
  · intro p hp hI
    exact absurd (Heap.lt_size (N p hp).1) ((List.mem_singleton.mp hI) ▸ Nat.lt_irrefl _)
  · show IsRangeIter _ _ _ _ _
    rw [hsz]; simpa using Heap.get?_push_size _ rfl
  · rintro i v m₁ news₁ s₁ own ⟨hh', tk', rfl⟩ hin ⟨ti, rfl⟩ ⟨rfl, hJ⟩ hoff _ _ _ _ F₁ N₁
    have ei : (0 : Int) + (i : Int) * 1 = (i : Int) := by lia
    rw [ei] at F₁
    refine wpAny_mono (turn i ti m₁ hh' tk' own hin hJ F₁ N₁) (fun f s₂ p => ?_) fun _ _ e => e
    have fin : InvEnd h₀ env.locals J (own ++ news₁) { s with heap := hh', toks := tk' } s₂ → LoopStepU h₀ env.locals [s.heap.objs.size] own (fun m₁ n₁ => n₁ = news₁ ∧ J m₁) { s with heap := hh', toks := tk' } .next s₂ := by
      rintro ⟨h', tk, m', news', e, F', N', hsub, hm⟩
      exact ⟨rfl, h', tk, m', news₁, e, F', fun p hp => N' p (hsub p hp), hoff, rfl, hm⟩
    cases f with
    | ret v => exact .ret p
    | brk => exact .brk p
    | next => exact .next (fin p)
    | cont => exact .cont (fin p)
  · rintro h' tk m' news' F' N' _ ⟨rfl, hJ⟩
    exact done m' h' tk hJ F' N'
end
section
variable {prog : Program} {w : World} {A : Around} {E : Value → Shared → Prop} {s : Shared}
/-- an item of a list, from the front or from the back -/
theorem item_at {value slice : Expr} {l : Addr} {vs : List Value} {k : Int} {u : Tok} {Q : Value → Shared → Prop} (hl : s.heap.IsList l vs.toArray) (h1 : -(vs.length : Int) ≤ k) (h2 : k < vs.length) (h3 : vs.length ≤ 100) (h : ∀ v, v ∈ vs → Q v s)
    (hs : subscripted slice false (.ref l) (.int k u) = operate [.ref l, .int k u] (getItem (.ref l) (.int k u)) := by with_unfolding_all rfl) :
    wpAny (model prog w) A (subscriptTail value slice (.ref l) (.int k u)) Q E s := by
  by_cases h0 : 0 ≤ k
  · have hk : k.toNat < vs.length := by lia
    exact tail_any hl.typeIs slot_list_getitem.lookup (wpAny_getItem_list hl h0 (by lia) (x := vs[k.toNat]) (by simp [hk]) (h _ (List.getElem_mem hk))) hs
  · have hk : (k + vs.length).toNat < vs.length := by lia
    exact tail_any hl.typeIs slot_list_getitem.lookup (wpAny_getItem_list_neg hl (by lia) (by simpa using h1) (by lia) (x := vs[(k + vs.length).toNat]) (by simp [hk]) (h _ (List.getElem_mem hk))) hs
end
section
variable {M : Model} {A : Around} {E : Value → Shared → Prop} {s : Shared} {h₀ : Heap} {L : Addr} {m : Str → Option Value} {news : List (Addr × Obj)} {Q : Flow → Shared → Prop}
/-- a statement's end that leaves one name with a value that P tells of -/
def CutPost (h₀ : Heap) (L : Addr) (m : Str → Option Value) (news : List (Addr × Obj)) (y : Str) (P : List (Addr × Obj) → Value → Prop) (s : Shared) (fl : Flow) (s' : Shared) : Prop :=
  fl = .next ∧ ∃ h' tk r tl, s' = { s with heap := h', toks := tk } ∧ Fr h₀ L h' (fun z => if z = y then some r else m z) ∧ News h₀ L h' (tl ++ news) ∧ P tl r
theorem cut_store {x : Sem Flow} (y : Str) (P : List (Addr × Obj) → Value → Prop) (_F : Fr h₀ L s.heap m) (_N : News h₀ L s.heap news) (h : wpAny M A x (CutPost h₀ L m news y P s) E s)
    (k : ∀ h' tk r tl, Fr h₀ L h' (fun z => if z = y then some r else m z) → News h₀ L h' (tl ++ news) → P tl r → Q .next { s with heap := h', toks := tk }) : wpAny M A x Q E s :=
  wpAny_mono h (fun fl s' q => by obtain ⟨rfl, h', tk, r, tl, rfl, F, N, p⟩ := q; exact k h' tk r tl F N p) fun _ _ e => e
theorem cut_end {h' : Heap} {tk : Nat} {r : Value} {y : Str} {P : List (Addr × Obj) → Value → Prop} {news' : List (Addr × Obj)} (F : Fr h₀ L h' (fun z => if z = y then some r else m z)) (N : News h₀ L h' news') (sub : ∀ p ∈ news, p ∈ news') (p : P news' r) :
    CutPost h₀ L m news y P s .next { s with heap := h', toks := tk } :=
  ⟨rfl, h', tk, r, news', rfl, F, fun q hq => N q ((List.mem_append.mp hq).elim id (sub q)), p⟩
/-- a test's end -/
def TestPost (h₀ : Heap) (L : Addr) (m : Str → Option Value) (news : List (Addr × Obj)) (b0 : Bool) (s : Shared) (b : Bool) (s' : Shared) : Prop :=
  b = b0 ∧ ∃ h' tk, s' = { s with heap := h', toks := tk } ∧ Fr h₀ L h' m ∧ News h₀ L h' news
theorem cut_test {x : Sem Bool} {R : Bool → Shared → Prop} (b0 : Bool) (_F : Fr h₀ L s.heap m) (_N : News h₀ L s.heap news) (h : wpAny M A x (TestPost h₀ L m news b0 s) E s)
    (k : ∀ h' tk, Fr h₀ L h' m → News h₀ L h' news → R b0 { s with heap := h', toks := tk }) : wpAny M A x R E s :=
  wpAny_mono h (fun fl s' q => by obtain ⟨rfl, h', tk, rfl, F, N⟩ := q; exact k h' tk F N) fun _ _ e => e
theorem TestPost.intro {h' : Heap} {tk : Nat} {b b0 : Bool} (e : b = b0) (F : Fr h₀ L h' m) (N : News h₀ L h' news) : TestPost h₀ L m news b0 s b { s with heap := h', toks := tk } := ⟨e, h', tk, rfl, F, N⟩
theorem cut_keep {h' : Heap} {tk : Nat} {r : Value} {y : Str} {P : List (Addr × Obj) → Value → Prop} {news' : List (Addr × Obj)} (F : Fr h₀ L h' m) (N : News h₀ L h' news') (hm : m y = some r) (sub : ∀ p ∈ news, p ∈ news') (p : P news' r) :
    CutPost h₀ L m news y P s .next { s with heap := h', toks := tk } := by
  refine cut_end ?_ N sub p
  have e : (fun z => if z = y then some r else m z) = m := funext fun z => by
    by_cases h : z = y
    · rw [if_pos h, h, hm]
    · rw [if_neg h]
  rw [e]; exact F
end
end NT
end
namespace NT
theorem offOf {X : List (Addr × Obj)} {I : Addr} (h : ∀ p ∈ X, p.1 < I) : ∀ p ∈ X, p.1 ≠ I := fun p hp => Nat.ne_of_lt (h p hp)
local macro_rules | `(tactic| k_mem) => `(tactic| first | assumption | ktr_member | exact List.mem_cons_self .. | (refine List.mem_cons_of_mem _ ?_; k_mem) | (refine List.mem_append.mpr (Or.inl ?_); k_mem) | (refine List.mem_append.mpr (Or.inr ?_); k_mem))
local macro_rules | `(tactic| walk_at $s:str) => do
  let t := Lean.Syntax.mkStrLit ("NT " ++ s.getString)
  `(tactic| k_extra $t)
theorem pre_all : True := by
  k_with "NT subscriptTail Name Constant ref int" => (k_here; (with_reducible show wpAny _ _ (subscriptTail _ _ (Value.ref _) (Value.int _ _)) _ _ _); (with_unfolding_all refine' item_litK ?k1 ?k2 ?k3 ?k4 ?_ ?k6; (case k1 => exact News.isList (by k_asm) (by k_mem)); (case k2 => decide); (case k3 => decide); (case k4 => rfl); (case k6 => with_unfolding_all rfl); k_whole))
  k_with "NT call ref" => (k_here; (refine wpAny_call ?_); k_dflt (refine' code_def ?k1 ?k2 ?k3 ?k4 ?k5 ?kA ?kF ?kK ?k6 ?k7 ?k8 ?k9 ?kB ?_ ?c2 ?c3 ?c4 ?c5; (case kA => exact rfl); (case kF => exact rfl); (case kK => first | exact rfl | assumption); (case k1 => k_asm); (case k2 => k_asm); (case k3 => k_asm); (case k4 => k_asm); (case k5 => k_asm); (case k6 => k_is); (case k7 => k_is); (case k8 => ktr_room); (case k9 => exact BindsTo.of_eq rfl); (case c5 => decide); (case kB => exact locs rfl); (case c2 => exact rfl); (case c3 => exact rfl); (case c4 => exact rfl); k_whole; intro g' L' h' FG' F' N' B' X' T'; (try dsimp only); (try k_fold)))
  k_with "NT binaryOp Add ref ref" => (k_here; (with_reducible show wpAny _ _ (binaryOp _ (Value.ref _) (Value.ref _)) _ _ _); k_dflt (refine' kmk_add_lit ?F ?N ?a ?b ?e ?_ ?z; (case F => k_asm); (case N => k_asm); (case a => kmk_list); (case b => kmk_list); (case e => kl_lit); (case z => kl_room)); intro D' h' F' N' l1; (try dsimp only))
  k_with "NT compareOp NotEq ref ref" => (k_here; (with_reducible show wpAny _ _ (compareOp CmpOp.NotEq (Value.ref _) (Value.ref _)) _ _ _); k_dflt ((refine ne_dataH (by ke_read) (by ke_read) (by ke_shaped) (by ke_shaped) (by ktr_units) ?_); ke_norm))
  k_with "NT compareOp Eq ref ref" => (k_here; (with_reducible show wpAny _ _ (compareOp CmpOp.Eq (Value.ref _) (Value.ref _)) _ _ _); k_dflt ((refine eq_dataH (by ke_read) (by ke_read) (by ke_shaped) (by ke_shaped) (by ktr_units) ?_); ke_norm))
  k_with "NT exec For Name Name cons nil" => (k_here; (rename Fr _ _ _ _ => lF'); (with_unfolding_all refine' For_invVF lF' ?k1 ?k2 ?_; (case k1 => exact rfl); (case k2 => exact rfl); k_whole))
  k_with "NT exec For Name List cons nil" => (k_here; (rename Fr _ _ _ _ => lF'); (with_unfolding_all refine' For_invVF lF' ?k1 ?k2 ?_; (case k1 => exact rfl); (case k2 => exact rfl); k_whole))
  k_with "NT exec For Name Subscript cons nil" => (k_here; (rename Fr _ _ _ _ => lF'); (with_unfolding_all refine' For_invVF lF' ?k1 ?k2 ?_; (case k1 => exact rfl); (case k2 => exact rfl); k_whole))
  k_with "NT pyIter ref" => (k_here; (with_unfolding_all refine' iter_listUnr ?k0 ?k1 ?k2 ?k3 ?k4 ?k5 ?_; (case k0 => exact rfl); (case k1 => k_asm); (case k2 => k_asm); (case k3 => k_mem); (case k4 => exact rfl); (case k5 => exact rfl); k_whole); intro i9 l9)
  k_with "NT UnrEnd" => (refine UnrEnd.intro (by assumption) (by assumption) _ ?ks (offOf (by assumption)) ⟨?km, ?_⟩; (case ks => ktd_sub); (case km => k_mem))
  k_with "NT ite" => (k_openite; k_dflt (first | (refine ite_pos ?kc ?_; (case kc => first | omega | (simp only [decide_eq_true_eq, decide_eq_false_iff_not, beq_iff_eq, bne_iff_ne, ne_eq, Bool.not_eq_true', Bool.not_eq_false', Bool.and_eq_true, Bool.and_eq_false_iff, Bool.or_eq_true, Bool.not_not]; done) | ((simp only [decide_eq_true_eq, decide_eq_false_iff_not, beq_iff_eq, bne_iff_ne, ne_eq, Bool.not_eq_true', Bool.not_eq_false', Bool.and_eq_true, Bool.and_eq_false_iff, Bool.or_eq_true, Bool.not_not]); omega) | (simp; done))) | (refine ite_neg ?kc ?_; (case kc => first | omega | (simp only [decide_eq_true_eq, decide_eq_false_iff_not, beq_iff_eq, bne_iff_ne, ne_eq, Bool.not_eq_true', Bool.not_eq_false', Bool.and_eq_true, Bool.and_eq_false_iff, Bool.or_eq_true, Bool.not_not]; done) | ((simp only [decide_eq_true_eq, decide_eq_false_iff_not, beq_iff_eq, bne_iff_ne, ne_eq, Bool.not_eq_true', Bool.not_eq_false', Bool.and_eq_true, Bool.and_eq_false_iff, Bool.or_eq_true, Bool.not_not]); omega) | (simp; done)))))
  k_with "NT NTn" => first | assumption | exact NumIn.whole | exact NumIn.mono (by assumption) (by ktd_sub) | exact NumIn.real (by k_mem) (by k_mem) | exact NumIn.ratio (by k_mem) (by k_mem)
  k_with "NT NTt" => first | assumption | exact ⟨_, _, _, _, by k_mem, by k_mem⟩
  k_with "NT NTm" => first | assumption | ktr_member | k_mem
  k_with "NT NTo" => assumption
  k_with "NT NTa" => first | assumption | omega | decide
  k_with "NT binaryOp LShift int int" => (refine lshift_int_small ?kb1 ?kb2 ?kb3 ?_; (case kb1 => walk_at "NTa"); (case kb2 => walk_at "NTa"); (case kb3 => walk_at "NTa"))
  k_with "NT binaryOp Pow int int" => (refine pow_int_small ?kb1 ?kb2 ?kb3 ?_; (case kb1 => walk_at "NTa"); (case kb2 => walk_at "NTa"); (case kb3 => walk_at "NTa"))
  k_with "NT binaryOp RShift int int" => (refine rshift_int ?kb1 ?_; (case kb1 => walk_at "NTa"))
  k_with "NT binaryOp FloorDiv int int" => (refine floordiv_int ?kb1 ?_ (Or.inl (PyProof.noPylong_small ?kb2)); (case kb1 => walk_at "NTa"); (case kb2 => walk_at "NTa"))
  k_with "NT binaryOp Mult int int" => (refine mul_int ?_ ?kb1; rotate_left; (case kb1 => first | exact mulSignOk _ _ | exact IntMulOk.of_left (intBits_le_64 (by walk_at "NTa") (by walk_at "NTa")) | exact IntMulOk.of_right (intBits_le_64 (by walk_at "NTa") (by walk_at "NTa"))))
  trivial
section
set_option maxRecDepth 100000 in
set_option maxHeartbeats 8000000 in
theorem c_low {w : World} {mean mg mb} (news : List (Addr × Obj)) (top bottom : Int) (t1 t2 : Tok) (hb : 0 < bottom) (hb2 : bottom < 1000000000) :
    Does w mean mg mb 695 3 [.int top t1, .int bottom t2] news (fun tl r => ∃ a p q u1 u2, r = .ref a ∧ (a, tupOf [.int p u1, .int q u2]) ∈ tl ∧ p = top / (Int.gcd top bottom : Int) ∧ q = bottom / (Int.gcd top bottom : Int)) := by
  unfold Does
  k_fill
  intro dp un gd cn cs aF ccd cl outer A₀ base h₀ L mF s Q E B F X N T hK9 hD9 hU9 hret
  refine wpAny_call ?_
  k_dflt (refine' code_def (binds := [(Str.ofString "top", .int top t1), (Str.ofString "bottom", .int bottom t2)]) ?k1 ?k2 ?k3 ?k4 ?k5 ?kA ?kF ?kK ?k6 ?k7 ?k8 ?k9 ?kB ?_ ?c2 ?c3 ?c4 ?c5; (case kA => exact rfl); (case kF => exact rfl); (case kK => assumption); (case k1 => k_asm); (case k2 => k_asm); (case k3 => k_asm); (case k4 => k_asm); (case k5 => k_asm); (case k6 => k_is); (case k7 => k_is); (case k8 => ktr_room); (case k9 => exact BindsTo.of_eq rfl); (case c5 => decide); (case kB => exact locs rfl); (case c2 => exact rfl); (case c3 => exact rfl); (case c4 => exact rfl); k_whole; intro g' L' h' FG' F' N' B' X' T'; (try dsimp only); (try k_fold))

  k_with "exec While Compare cons nil" => k_while (fun _ one other => 0 ≤ one ∧ 0 ≤ other ∧ Int.gcd one other = Int.gcd top bottom) (fun _ _ other => other.toNat) "one" "other"
  k_with "state" => first | exact low0 top bottom hb | exact low1 (by assumption) (by assumption) (by assumption) (by assumption)
  k_with "measure" => exact low2 (by assumption) (by assumption) (by assumption) (by assumption)
  k_with "exec Return some" => refine NT.Halt.out ?_
  k_steps
  refine Halt.put ?_
  have e1 := low3 (by assumption : Int.gcd _ _ = Int.gcd top bottom) (by assumption) (by assumption)
  obtain ⟨hg1, hg2⟩ := gcdPos (top := top) hb
  subst e1
  k_with_none
  k_with "NT subscriptTail Name Constant ref int" => (k_here; (with_reducible show wpAny _ _ (subscriptTail _ _ (Value.ref _) (Value.int _ _)) _ _ _); (with_unfolding_all refine' item_litK ?k1 ?k2 ?k3 ?k4 ?_ ?k6; (case k1 => exact News.isList (by k_asm) (by k_mem)); (case k2 => decide); (case k3 => decide); (case k4 => rfl); (case k6 => with_unfolding_all rfl); k_whole))
  k_with "NT call ref" => (k_here; (refine wpAny_call ?_); k_dflt (refine' code_def ?k1 ?k2 ?k3 ?k4 ?k5 ?kA ?kF ?kK ?k6 ?k7 ?k8 ?k9 ?kB ?_ ?c2 ?c3 ?c4 ?c5; (case kA => exact rfl); (case kF => exact rfl); (case kK => first | exact rfl | assumption); (case k1 => k_asm); (case k2 => k_asm); (case k3 => k_asm); (case k4 => k_asm); (case k5 => k_asm); (case k6 => k_is); (case k7 => k_is); (case k8 => ktr_room); (case k9 => exact BindsTo.of_eq rfl); (case c5 => decide); (case kB => exact locs rfl); (case c2 => exact rfl); (case c3 => exact rfl); (case c4 => exact rfl); k_whole; intro g' L' h' FG' F' N' B' X' T'; (try dsimp only); (try k_fold)))
  k_with "NT binaryOp Add ref ref" => (k_here; (with_reducible show wpAny _ _ (binaryOp _ (Value.ref _) (Value.ref _)) _ _ _); k_dflt (refine' kmk_add_lit ?F ?N ?a ?b ?e ?_ ?z; (case F => k_asm); (case N => k_asm); (case a => kmk_list); (case b => kmk_list); (case e => kl_lit); (case z => kl_room)); intro D' h' F' N' l1; (try dsimp only))
  k_with "NT compareOp NotEq ref ref" => (k_here; (with_reducible show wpAny _ _ (compareOp CmpOp.NotEq (Value.ref _) (Value.ref _)) _ _ _); k_dflt ((refine ne_dataH (by ke_read) (by ke_read) (by ke_shaped) (by ke_shaped) (by ktr_units) ?_); ke_norm))
  k_with "NT compareOp Eq ref ref" => (k_here; (with_reducible show wpAny _ _ (compareOp CmpOp.Eq (Value.ref _) (Value.ref _)) _ _ _); k_dflt ((refine eq_dataH (by ke_read) (by ke_read) (by ke_shaped) (by ke_shaped) (by ktr_units) ?_); ke_norm))
  k_with "NT exec For Name Name cons nil" => (k_here; (rename Fr _ _ _ _ => lF'); (with_unfolding_all refine' For_invVF lF' ?k1 ?k2 ?_; (case k1 => exact rfl); (case k2 => exact rfl); k_whole))
  k_with "NT exec For Name List cons nil" => (k_here; (rename Fr _ _ _ _ => lF'); (with_unfolding_all refine' For_invVF lF' ?k1 ?k2 ?_; (case k1 => exact rfl); (case k2 => exact rfl); k_whole))
  k_with "NT exec For Name Subscript cons nil" => (k_here; (rename Fr _ _ _ _ => lF'); (with_unfolding_all refine' For_invVF lF' ?k1 ?k2 ?_; (case k1 => exact rfl); (case k2 => exact rfl); k_whole))
  k_with "NT pyIter ref" => (k_here; (with_unfolding_all refine' iter_listUnr ?k0 ?k1 ?k2 ?k3 ?k4 ?k5 ?_; (case k0 => exact rfl); (case k1 => k_asm); (case k2 => k_asm); (case k3 => k_mem); (case k4 => exact rfl); (case k5 => exact rfl); k_whole); intro i9 l9)
  k_with "NT UnrEnd" => (refine UnrEnd.intro (by assumption) (by assumption) _ ?ks (offOf (by assumption)) ⟨?km, ?_⟩; (case ks => ktd_sub); (case km => k_mem))
  k_with "NT ite" => (k_openite; k_dflt (first | (refine ite_pos ?kc ?_; (case kc => first | omega | (simp only [decide_eq_true_eq, decide_eq_false_iff_not, beq_iff_eq, bne_iff_ne, ne_eq, Bool.not_eq_true', Bool.not_eq_false', Bool.and_eq_true, Bool.and_eq_false_iff, Bool.or_eq_true, Bool.not_not]; done) | ((simp only [decide_eq_true_eq, decide_eq_false_iff_not, beq_iff_eq, bne_iff_ne, ne_eq, Bool.not_eq_true', Bool.not_eq_false', Bool.and_eq_true, Bool.and_eq_false_iff, Bool.or_eq_true, Bool.not_not]); omega) | (simp; done))) | (refine ite_neg ?kc ?_; (case kc => first | omega | (simp only [decide_eq_true_eq, decide_eq_false_iff_not, beq_iff_eq, bne_iff_ne, ne_eq, Bool.not_eq_true', Bool.not_eq_false', Bool.and_eq_true, Bool.and_eq_false_iff, Bool.or_eq_true, Bool.not_not]; done) | ((simp only [decide_eq_true_eq, decide_eq_false_iff_not, beq_iff_eq, bne_iff_ne, ne_eq, Bool.not_eq_true', Bool.not_eq_false', Bool.and_eq_true, Bool.and_eq_false_iff, Bool.or_eq_true, Bool.not_not]); omega) | (simp; done)))))
  k_with "NT NTn" => first | assumption | exact NumIn.whole | exact NumIn.mono (by assumption) (by ktd_sub) | exact NumIn.real (by k_mem) (by k_mem) | exact NumIn.ratio (by k_mem) (by k_mem)
  k_with "NT NTt" => first | assumption | exact ⟨_, _, _, _, by k_mem, by k_mem⟩
  k_with "NT NTm" => first | assumption | ktr_member | k_mem
  k_with "NT NTo" => assumption
  k_with "NT NTa" => first | assumption | omega | decide
  k_with "NT binaryOp LShift int int" => (refine lshift_int_small ?kb1 ?kb2 ?kb3 ?_; (case kb1 => walk_at "NTa"); (case kb2 => walk_at "NTa"); (case kb3 => walk_at "NTa"))
  k_with "NT binaryOp Pow int int" => (refine pow_int_small ?kb1 ?kb2 ?kb3 ?_; (case kb1 => walk_at "NTa"); (case kb2 => walk_at "NTa"); (case kb3 => walk_at "NTa"))
  k_with "NT binaryOp RShift int int" => (refine rshift_int ?kb1 ?_; (case kb1 => walk_at "NTa"))
  k_with "NT binaryOp FloorDiv int int" => (refine floordiv_int ?kb1 ?_ (Or.inl (PyProof.noPylong_small ?kb2)); (case kb1 => walk_at "NTa"); (case kb2 => walk_at "NTa"))
  k_with "NT binaryOp Mult int int" => (refine mul_int ?_ ?kb1; rotate_left; (case kb1 => first | exact mulSignOk _ _ | exact IntMulOk.of_left (intBits_le_64 (by walk_at "NTa") (by walk_at "NTa")) | exact IntMulOk.of_right (intBits_le_64 (by walk_at "NTa") (by walk_at "NTa"))))
  k_steps
  refine' ret_all hret (by assumption) (by assumption) (by kcj_all) ⟨_, _, _, _, _, rfl, ?hm, ?he1, ?he2⟩
  case hm => k_mem
  case he1 => rw [Int.fdiv_eq_ediv_of_nonneg _ (by omega)]
  case he2 => rw [Int.fdiv_eq_ediv_of_nonneg _ (by omega)]
theorem laid_NTW1_1 : True := by
  k_with "NT call ref" => (k_here; (with_reducible show wpAny _ _ (PySem.call (Value.ref 695) _ _) _ _ _); k_dflt (refine' Does.use (c_low _ _ _ _ _ ?ha ?hb) ?k1 ?k2 ?k3 ?k4 ?k5 ?kK ?kd ?ku ?_; (case k1 => k_asm); (case k2 => k_asm); (case k3 => k_asm); (case k4 => k_asm); (case k5 => k_asm); (case kK => first | exact rfl | assumption); (case kd => ktr_room); (case ku => ktr_units); (case ha => omega); (case hb => omega); intro r9 tl9 h9 tk9 F9 N9 ho9; obtain ⟨a9, p9, q9, u9, v9, e9, hm9, hp9, hq9⟩ := ho9; subst e9; subst hp9; subst hq9; (try dsimp only); (try k_fold)))
  trivial
set_option maxRecDepth 100000 in
set_option maxHeartbeats 8000000 in
theorem c_Real {w : World} {mean mg mb} (news : List (Addr × Obj)) (m' e' : Int) (t1 t2 : Tok) :
    Does w mean mg mb 96 3 [.int m' t1, .int e' t2] news (fun tl r => NumIn tl r (.real m' e')) := by
  unfold Does
  k_fill
  intro dp un gd cn cs aF ccd cl outer A₀ base h₀ L mF s Q E B F X N T hK9 hD9 hU9 hret
  k_dflt (refine' call_cls ?k1 ?k2 ?k3 ?k4 ?k5 ?k6 ?_; (case k1 => k_asm); (case k2 => k_asm); (case k3 => k_asm); (case k4 => k_is); (case k5 => k_is); (case k6 => k_is); k_whole; intro x' d' h' F' N' l1 l2; (try k_lt l1); (try k_lt2 l2); (try k_sweep))
  k_dflt (refine' code_def (binds := [(Str.ofString "self", .ref x'), (Str.ofString "mantissa", .int m' t1), (Str.ofString "exponent", .int e' t2)]) ?k1 ?k2 ?k3 ?k4 ?k5 ?kA ?kF ?kK ?k6 ?k7 ?k8 ?k9 ?kB ?_ ?c2 ?c3 ?c4 ?c5; (case kA => exact rfl); (case kF => exact rfl); (case kK => assumption); (case k1 => k_asm); (case k2 => k_asm); (case k3 => k_asm); (case k4 => k_asm); (case k5 => k_asm); (case k6 => k_is); (case k7 => k_is); (case k8 => ktr_room); (case k9 => exact BindsTo.of_eq rfl); (case c5 => decide); (case kB => exact locs rfl); (case c2 => exact rfl); (case c3 => exact rfl); (case c4 => exact rfl); k_whole; intro g' L' h' FG' F' N' B' X' T'; (try dsimp only); (try k_fold))

  k_steps
  refine' ret_all hret (by assumption) (by assumption) (by kcj_all) (.real ?h1 ?h2)
  case h1 => k_mem
  case h2 => k_mem
theorem laid_NTW1_2 : True := by
  k_with "NT call ref" => (k_here; (with_reducible show wpAny _ _ (PySem.call (Value.ref 96) _ _) _ _ _); k_dflt (refine' Does.use (c_Real _ _ _ _ _) ?k1 ?k2 ?k3 ?k4 ?k5 ?kK ?kd ?ku ?_; (case k1 => k_asm); (case k2 => k_asm); (case k3 => k_asm); (case k4 => k_asm); (case k5 => k_asm); (case kK => first | exact rfl | assumption); (case kd => ktr_room); (case ku => ktr_units);  intro r9 tl9 h9 tk9 F9 N9 ho9; (try dsimp only); (try k_fold)))
  trivial
set_option maxRecDepth 100000 in
set_option maxHeartbeats 8000000 in
theorem c_Ratio {w : World} {mean mg mb} (news : List (Addr × Obj)) (t b : Int) (t1 t2 : Tok) :
    Does w mean mg mb 264 3 [.int t t1, .int b t2] news (fun tl r => NumIn tl r (.ratio t b)) := by
  unfold Does
  k_fill
  intro dp un gd cn cs aF ccd cl outer A₀ base h₀ L mF s Q E B F X N T hK9 hD9 hU9 hret
  k_dflt (refine' call_cls ?k1 ?k2 ?k3 ?k4 ?k5 ?k6 ?_; (case k1 => k_asm); (case k2 => k_asm); (case k3 => k_asm); (case k4 => k_is); (case k5 => k_is); (case k6 => k_is); k_whole; intro x' d' h' F' N' l1 l2; (try k_lt l1); (try k_lt2 l2); (try k_sweep))
  k_dflt (refine' code_def (binds := [(Str.ofString "self", .ref x'), (Str.ofString "top", .int t t1), (Str.ofString "bottom", .int b t2)]) ?k1 ?k2 ?k3 ?k4 ?k5 ?kA ?kF ?kK ?k6 ?k7 ?k8 ?k9 ?kB ?_ ?c2 ?c3 ?c4 ?c5; (case kA => exact rfl); (case kF => exact rfl); (case kK => assumption); (case k1 => k_asm); (case k2 => k_asm); (case k3 => k_asm); (case k4 => k_asm); (case k5 => k_asm); (case k6 => k_is); (case k7 => k_is); (case k8 => ktr_room); (case k9 => exact BindsTo.of_eq rfl); (case c5 => decide); (case kB => exact locs rfl); (case c2 => exact rfl); (case c3 => exact rfl); (case c4 => exact rfl); k_whole; intro g' L' h' FG' F' N' B' X' T'; (try dsimp only); (try k_fold))

  k_steps
  refine' ret_all hret (by assumption) (by assumption) (by kcj_all) (.ratio ?h1 ?h2)
  case h1 => k_mem
  case h2 => k_mem
theorem laid_NTW1_3 : True := by
  k_with "NT call ref" => (k_here; (with_reducible show wpAny _ _ (PySem.call (Value.ref 264) _ _) _ _ _); k_dflt (refine' Does.use (c_Ratio _ _ _ _ _) ?k1 ?k2 ?k3 ?k4 ?k5 ?kK ?kd ?ku ?_; (case k1 => k_asm); (case k2 => k_asm); (case k3 => k_asm); (case k4 => k_asm); (case k5 => k_asm); (case kK => first | exact rfl | assumption); (case kd => ktr_room); (case ku => ktr_units);  intro r9 tl9 h9 tk9 F9 N9 ho9; (try dsimp only); (try k_fold)))
  trivial
set_option maxRecDepth 100000 in
set_option maxHeartbeats 8000000 in
theorem c_size {w : World} {mean mg mb} (news : List (Addr × Obj)) (n : Int) (t1 : Tok) :
    Does w mean mg mb 107 3 [.int n t1] news (fun _ r => ∃ u, r = .int (Builtin.Int.intBits n : Int) u) := by
  unfold Does
  k_fill
  intro dp un gd cn cs aF ccd cl outer A₀ base h₀ L mF s Q E B F X N T hK9 hD9 hU9 hret
  refine wpAny_call ?_
  k_dflt (refine' code_def (binds := [(Str.ofString "number", .int n t1)]) ?k1 ?k2 ?k3 ?k4 ?k5 ?kA ?kF ?kK ?k6 ?k7 ?k8 ?k9 ?kB ?_ ?c2 ?c3 ?c4 ?c5; (case kA => exact rfl); (case kF => exact rfl); (case kK => assumption); (case k1 => k_asm); (case k2 => k_asm); (case k3 => k_asm); (case k4 => k_asm); (case k5 => k_asm); (case k6 => k_is); (case k7 => k_is); (case k8 => ktr_room); (case k9 => exact BindsTo.of_eq rfl); (case c5 => decide); (case kB => exact locs rfl); (case c2 => exact rfl); (case c3 => exact rfl); (case c4 => exact rfl); k_whole; intro g' L' h' FG' F' N' B' X' T'; (try dsimp only); (try k_fold))

  k_steps
  exact ret_all hret (by assumption) (by assumption) (by kcj_all) ⟨_, by rw [intBits_abs]⟩
theorem laid_NTW1_4 : True := by
  k_with "NT call ref" => (k_here; (with_reducible show wpAny _ _ (PySem.call (Value.ref 107) _ _) _ _ _); k_dflt (refine' Does.use (c_size _ _ _) ?k1 ?k2 ?k3 ?k4 ?k5 ?kK ?kd ?ku ?_; (case k1 => k_asm); (case k2 => k_asm); (case k3 => k_asm); (case k4 => k_asm); (case k5 => k_asm); (case kK => first | exact rfl | assumption); (case kd => ktr_room); (case ku => ktr_units);  intro r9 tl9 h9 tk9 F9 N9 ho9; obtain ⟨u9, e9⟩ := ho9; subst e9; (try dsimp only); (try k_fold)))
  trivial
set_option maxRecDepth 100000 in
set_option maxHeartbeats 8000000 in
theorem c_sow {w : World} {mean mg mb} (news : List (Addr × Obj)) (n : Int) (t1 : Tok) :
    Does w mean mg mb 114 3 [.int n t1] news (fun _ r => ∃ u, r = .int (Int.sign n) u) := by
  unfold Does
  k_fill
  intro dp un gd cn cs aF ccd cl outer A₀ base h₀ L mF s Q E B F X N T hK9 hD9 hU9 hret
  refine wpAny_call ?_
  k_dflt (refine' code_def (binds := [(Str.ofString "number", .int n t1)]) ?k1 ?k2 ?k3 ?k4 ?k5 ?kA ?kF ?kK ?k6 ?k7 ?k8 ?k9 ?kB ?_ ?c2 ?c3 ?c4 ?c5; (case kA => exact rfl); (case kF => exact rfl); (case kK => assumption); (case k1 => k_asm); (case k2 => k_asm); (case k3 => k_asm); (case k4 => k_asm); (case k5 => k_asm); (case k6 => k_is); (case k7 => k_is); (case k8 => ktr_room); (case k9 => exact BindsTo.of_eq rfl); (case c5 => decide); (case kB => exact locs rfl); (case c2 => exact rfl); (case c3 => exact rfl); (case c4 => exact rfl); k_whole; intro g' L' h' FG' F' N' B' X' T'; (try dsimp only); (try k_fold))

  k_steps
  exact ret_all hret (by assumption) (by assumption) (by kcj_all) ⟨_, by rw [sow_eq]⟩
theorem laid_NTW1_5 : True := by
  k_with "NT call ref" => (k_here; (with_reducible show wpAny _ _ (PySem.call (Value.ref 114) _ _) _ _ _); k_dflt (refine' Does.use (c_sow _ _ _) ?k1 ?k2 ?k3 ?k4 ?k5 ?kK ?kd ?ku ?_; (case k1 => k_asm); (case k2 => k_asm); (case k3 => k_asm); (case k4 => k_asm); (case k5 => k_asm); (case kK => first | exact rfl | assumption); (case kd => ktr_room); (case ku => ktr_units);  intro r9 tl9 h9 tk9 F9 N9 ho9; obtain ⟨u9, e9⟩ := ho9; subst e9; (try dsimp only); (try k_fold)))
  trivial
set_option maxRecDepth 100000 in
set_option maxHeartbeats 8000000 in
theorem c_zeros {w : World} {mean mg mb} (news : List (Addr × Obj)) (n : Int) (t1 : Tok) (k : Nat) (a : Int) (hn : n = 2 ^ k * (2 * a + 1)) :
    Does w mean mg mb 121 3 [.int n t1] news (fun _ r => ∃ u, r = .int (k : Int) u) := by
  have hz := zeros_eq hn
  unfold Does
  k_fill
  intro dp un gd cn cs aF ccd cl outer A₀ base h₀ L mF s Q E B F X N T hK9 hD9 hU9 hret
  refine wpAny_call ?_
  k_dflt (refine' code_def (binds := [(Str.ofString "number", .int n t1)]) ?k1 ?k2 ?k3 ?k4 ?k5 ?kA ?kF ?kK ?k6 ?k7 ?k8 ?k9 ?kB ?_ ?c2 ?c3 ?c4 ?c5; (case kA => exact rfl); (case kF => exact rfl); (case kK => assumption); (case k1 => k_asm); (case k2 => k_asm); (case k3 => k_asm); (case k4 => k_asm); (case k5 => k_asm); (case k6 => k_is); (case k7 => k_is); (case k8 => ktr_room); (case k9 => exact BindsTo.of_eq rfl); (case c5 => decide); (case kB => exact locs rfl); (case c2 => exact rfl); (case c3 => exact rfl); (case c4 => exact rfl); k_whole; intro g' L' h' FG' F' N' B' X' T'; (try dsimp only); (try k_fold))

  k_steps
  exact ret_all hret (by assumption) (by assumption) (by kcj_all) ⟨_, by rw [hz]⟩
theorem laid_NTW1_6 : True := by
  k_with "NT call ref" => (k_here; (with_reducible show wpAny _ _ (PySem.call (Value.ref 121) _ _) _ _ _); k_dflt (refine' Does.use (c_zeros _ _ _ _ _ ?ha) ?k1 ?k2 ?k3 ?k4 ?k5 ?kK ?kd ?ku ?_; (case k1 => k_asm); (case k2 => k_asm); (case k3 => k_asm); (case k4 => k_asm); (case k5 => k_asm); (case kK => first | exact rfl | assumption); (case kd => ktr_room); (case ku => ktr_units); (case ha => assumption); intro r9 tl9 h9 tk9 F9 N9 ho9; obtain ⟨u9, e9⟩ := ho9; subst e9; (try dsimp only); (try k_fold)))
  trivial
end
section
set_option maxRecDepth 100000 in
set_option maxHeartbeats 8000000 in
theorem c_lean {w : World} {mean mg mb} (news : List (Addr × Obj)) (mm ee : Int) (t1 t2 : Tok) (hs1 : -1152921504606846976 ≤ mm) (hs2 : mm ≤ 1152921504606846976) (he1 : -1000 ≤ ee) (he2 : ee ≤ 1000) :
    Does w mean mg mb 128 6 [.int mm t1, .int ee t2] news (fun tl r => ∃ m' e', NumIn tl r (.real m' e') ∧ NormOf mm ee m' e') := by
  have hs := bits_small hs1 hs2
  by_cases hm : mm = 0
  · subst hm
    unfold Does
    k_fill
    intro dp un gd cn cs aF ccd cl outer A₀ base h₀ L mF s Q E B F X N T hK9 hD9 hU9 hret
    refine wpAny_call ?_
    k_dflt (refine' code_def (binds := [(Str.ofString "mantissa", .int 0 t1), (Str.ofString "exponent", .int ee t2)]) ?k1 ?k2 ?k3 ?k4 ?k5 ?kA ?kF ?kK ?k6 ?k7 ?k8 ?k9 ?kB ?_ ?c2 ?c3 ?c4 ?c5; (case kA => exact rfl); (case kF => exact rfl); (case kK => assumption); (case k1 => k_asm); (case k2 => k_asm); (case k3 => k_asm); (case k4 => k_asm); (case k5 => k_asm); (case k6 => k_is); (case k7 => k_is); (case k8 => ktr_room); (case k9 => exact BindsTo.of_eq rfl); (case c5 => decide); (case kB => exact locs rfl); (case c2 => exact rfl); (case c3 => exact rfl); (case c4 => exact rfl); k_whole; intro g' L' h' FG' F' N' B' X' T'; (try dsimp only); (try k_fold))
  
    k_steps
    rename NumIn _ _ _ => hN
    exact ret_all hret (by assumption) (by assumption) (by ktd_sub) ⟨_, _, hN.mono (by ktd_sub), .inl ⟨rfl, rfl, rfl⟩⟩
  · obtain ⟨k, a, hk⟩ := oddPart hm
    unfold Does
    k_fill
    intro dp un gd cn cs aF ccd cl outer A₀ base h₀ L mF s Q E B F X N T hK9 hD9 hU9 hret
    refine wpAny_call ?_
    k_dflt (refine' code_def (binds := [(Str.ofString "mantissa", .int mm t1), (Str.ofString "exponent", .int ee t2)]) ?k1 ?k2 ?k3 ?k4 ?k5 ?kA ?kF ?kK ?k6 ?k7 ?k8 ?k9 ?kB ?_ ?c2 ?c3 ?c4 ?c5; (case kA => exact rfl); (case kF => exact rfl); (case kK => assumption); (case k1 => k_asm); (case k2 => k_asm); (case k3 => k_asm); (case k4 => k_asm); (case k5 => k_asm); (case k6 => k_is); (case k7 => k_is); (case k8 => ktr_room); (case k9 => exact BindsTo.of_eq rfl); (case c5 => decide); (case kB => exact locs rfl); (case c2 => exact rfl); (case c3 => exact rfl); (case c4 => exact rfl); k_whole; intro g' L' h' FG' F' N' B' X' T'; (try dsimp only); (try k_fold))
  
    k_steps
    rename NumIn _ _ _ => hN
    rw [norm_shift hk] at hN
    exact ret_all hret (by assumption) (by assumption) (by ktd_sub) ⟨_, _, hN.mono (by ktd_sub), norm_of hk⟩
theorem laid_NTW2_1 : True := by
  k_with "NT call ref" => (k_here; (with_reducible show wpAny _ _ (PySem.call (Value.ref 128) _ _) _ _ _); k_dflt (refine' Does.use (c_lean _ _ _ _ _ ?ha ?ha2 ?hb ?hc) ?k1 ?k2 ?k3 ?k4 ?k5 ?kK ?kd ?ku ?_; (case k1 => k_asm); (case k2 => k_asm); (case k3 => k_asm); (case k4 => k_asm); (case k5 => k_asm); (case kK => first | exact rfl | assumption); (case kd => ktr_room); (case ku => ktr_units); (case ha => first | (walk_at "NTa") | exact (signMul (by omega) (by omega)).1); (case ha2 => first | (walk_at "NTa") | exact (signMul (by omega) (by omega)).2); (case hb => (walk_at "NTa")); (case hc => (walk_at "NTa")); intro r9 tl9 h9 tk9 F9 N9 ho9; obtain ⟨m9, e9, hm9, hn9⟩ := ho9; (try dsimp only); (try k_fold)))
  trivial
set_option maxRecDepth 100000 in
set_option maxHeartbeats 8000000 in
theorem c_nshift {w : World} {mean mg mb} (news : List (Addr × Obj)) (n gone : Int) (t1 t2 : Tok) (h0 : 0 ≤ n) (hg : 1 ≤ gone) (hg2 : gone ≤ 1000) :
    Does w mean mg mb 135 3 [.int n t1, .int gone t2] news (fun _ r => ∃ R u, r = .int R u ∧ IsRne n (2 ^ gone.toNat) R ∧ 0 ≤ R ∧ R ≤ n) := by
  unfold Does
  k_fill
  intro dp un gd cn cs aF ccd cl outer A₀ base h₀ L mF s Q E B F X N T hK9 hD9 hU9 hret
  refine wpAny_call ?_
  k_dflt (refine' code_def (binds := [(Str.ofString "number", .int n t1), (Str.ofString "gone", .int gone t2)]) ?k1 ?k2 ?k3 ?k4 ?k5 ?kA ?kF ?kK ?k6 ?k7 ?k8 ?k9 ?kB ?_ ?c2 ?c3 ?c4 ?c5; (case kA => exact rfl); (case kF => exact rfl); (case kK => assumption); (case k1 => k_asm); (case k2 => k_asm); (case k3 => k_asm); (case k4 => k_asm); (case k5 => k_asm); (case k6 => k_is); (case k7 => k_is); (case k8 => ktr_room); (case k9 => exact BindsTo.of_eq rfl); (case c5 => decide); (case kB => exact locs rfl); (case c2 => exact rfl); (case c3 => exact rfl); (case c4 => exact rfl); k_whole; intro g' L' h' FG' F' N' B' X' T'; (try dsimp only); (try k_fold))

  k_steps
  · exact ret_all hret (by assumption) (by assumption) (by ktd_sub) ⟨_, _, rfl, ns1 hg (by assumption), rne_bnd (ns1 hg (by assumption)) h0⟩
  · exact ret_all hret (by assumption) (by assumption) (by ktd_sub) ⟨_, _, rfl, ns2 hg (by assumption) (by assumption), rne_bnd (ns2 hg (by assumption) (by assumption)) h0⟩
  · exact ret_all hret (by assumption) (by assumption) (by ktd_sub) ⟨_, _, rfl, ns3 hg (by assumption) (by assumption), rne_bnd (ns3 hg (by assumption) (by assumption)) h0⟩
  · exact ret_all hret (by assumption) (by assumption) (by ktd_sub) ⟨_, _, rfl, ns4 hg (by assumption) (by assumption), rne_bnd (ns4 hg (by assumption) (by assumption)) h0⟩
theorem laid_NTW2_2 : True := by
  k_with "NT call ref" => (k_here; (with_reducible show wpAny _ _ (PySem.call (Value.ref 135) _ _) _ _ _); k_dflt (refine' Does.use (c_nshift _ _ _ _ _ ?ha ?hb ?hc) ?k1 ?k2 ?k3 ?k4 ?k5 ?kK ?kd ?ku ?_; (case k1 => k_asm); (case k2 => k_asm); (case k3 => k_asm); (case k4 => k_asm); (case k5 => k_asm); (case kK => first | exact rfl | assumption); (case kd => ktr_room); (case ku => ktr_units); (case ha => (walk_at "NTa")); (case hb => (walk_at "NTa")); (case hc => (walk_at "NTa")); intro r9 tl9 h9 tk9 F9 N9 ho9; obtain ⟨R9, u9, e9, hR9, hlo9, hhi9⟩ := ho9; subst e9; (try dsimp only); (try k_fold)))
  trivial
set_option maxRecDepth 100000 in
set_option maxHeartbeats 8000000 in
theorem c_sticky {w : World} {mean mg mb} (news : List (Addr × Obj)) (n : Int) (b : Bool) (t1 : Tok) (h1 : 0 ≤ n) (h2 : n < 10000000) :
    Does w mean mg mb 149 3 [.int n t1, .bool b] news (fun _ r => ∃ u, r = .int (2 * n + (if b = true then 1 else 0)) u) := by
  unfold Does
  k_fill
  intro dp un gd cn cs aF ccd cl outer A₀ base h₀ L mF s Q E B F X N T hK9 hD9 hU9 hret
  refine wpAny_call ?_
  k_dflt (refine' code_def (binds := [(Str.ofString "number", .int n t1), (Str.ofString "is_more", .bool b)]) ?k1 ?k2 ?k3 ?k4 ?k5 ?kA ?kF ?kK ?k6 ?k7 ?k8 ?k9 ?kB ?_ ?c2 ?c3 ?c4 ?c5; (case kA => exact rfl); (case kF => exact rfl); (case kK => assumption); (case k1 => k_asm); (case k2 => k_asm); (case k3 => k_asm); (case k4 => k_asm); (case k5 => k_asm); (case k6 => k_is); (case k7 => k_is); (case k8 => ktr_room); (case k9 => exact BindsTo.of_eq rfl); (case c5 => decide); (case kB => exact locs rfl); (case c2 => exact rfl); (case c3 => exact rfl); (case c4 => exact rfl); k_whole; intro g' L' h' FG' F' N' B' X' T'; (try dsimp only); (try k_fold))

  k_steps
  · exact ret_all hret (by assumption) (by assumption) (by ktd_sub) ⟨_, by rw [if_pos (by assumption)]⟩
  · exact ret_all hret (by assumption) (by assumption) (by ktd_sub) ⟨_, by rw [if_neg (show ¬ b = true by rw [‹b = false›]; decide)]⟩
theorem laid_NTW2_3 : True := by
  k_with "NT call ref" => (k_here; (with_reducible show wpAny _ _ (PySem.call (Value.ref 149) _ _) _ _ _); k_dflt (refine' Does.use (c_sticky _ _ _ _ ?ha ?hb) ?k1 ?k2 ?k3 ?k4 ?k5 ?kK ?kd ?ku ?_; (case k1 => k_asm); (case k2 => k_asm); (case k3 => k_asm); (case k4 => k_asm); (case k5 => k_asm); (case kK => first | exact rfl | assumption); (case kd => ktr_room); (case ku => ktr_units); (case ha => (walk_at "NTa")); (case hb => (walk_at "NTa")); intro r9 tl9 h9 tk9 F9 N9 ho9; obtain ⟨u9, e9⟩ := ho9; subst e9; (try dsimp only); (try k_fold)))
  trivial
set_option maxRecDepth 100000 in
set_option maxHeartbeats 8000000 in
theorem c_sround {w : World} {mean mg mb} (news : List (Addr × Obj)) (p mm ee : Int) (t1 t2 t3 : Tok) (hp : 0 ≤ p) (hg : 1 ≤ (Builtin.Int.intBits mm : Int) - p) (hs1 : -1125899906842624 ≤ mm) (hs2 : mm ≤ 1125899906842624) (he1 : -500 ≤ ee) (he2 : ee ≤ 500) :
    Does w mean mg mb 142 10 [.int p t1, .int mm t2, .int ee t3] news (fun tl r => ∃ R m' e', NumIn tl r (.real m' e') ∧ IsRne (if mm < 0 then -mm else mm) (2 ^ ((Builtin.Int.intBits mm : Int) - p).toNat) R ∧ NormOf (mm.sign * R) (ee + ((Builtin.Int.intBits mm : Int) - p)) m' e') := by
  have hs := bits_small (n := mm) (by omega) (by omega)
  unfold Does
  k_fill
  intro dp un gd cn cs aF ccd cl outer A₀ base h₀ L mF s Q E B F X N T hK9 hD9 hU9 hret
  refine wpAny_call ?_
  k_dflt (refine' code_def (binds := [(Str.ofString "precision", .int p t1), (Str.ofString "mantissa", .int mm t2), (Str.ofString "exponent", .int ee t3)]) ?k1 ?k2 ?k3 ?k4 ?k5 ?kA ?kF ?kK ?k6 ?k7 ?k8 ?k9 ?kB ?_ ?c2 ?c3 ?c4 ?c5; (case kA => exact rfl); (case kF => exact rfl); (case kK => assumption); (case k1 => k_asm); (case k2 => k_asm); (case k3 => k_asm); (case k4 => k_asm); (case k5 => k_asm); (case k6 => k_is); (case k7 => k_is); (case k8 => ktr_room); (case k9 => exact BindsTo.of_eq rfl); (case c5 => decide); (case kB => exact locs rfl); (case c2 => exact rfl); (case c3 => exact rfl); (case c4 => exact rfl); k_whole; intro g' L' h' FG' F' N' B' X' T'; (try dsimp only); (try k_fold))

  k_steps
  rename NumIn _ _ _ => hN
  exact ret_all hret (by assumption) (by assumption) (by ktd_sub) ⟨_, _, _, hN.mono (by ktd_sub), by assumption, by assumption⟩
theorem laid_NTW2_4 : True := by
  k_with "NT call ref" => (k_here; (with_reducible show wpAny _ _ (PySem.call (Value.ref 142) _ _) _ _ _); k_dflt (refine' Does.use (c_sround _ _ _ _ _ _ _ ?ha ?hb ?hc ?hd ?he ?hf) ?k1 ?k2 ?k3 ?k4 ?k5 ?kK ?kd ?ku ?_; (case k1 => k_asm); (case k2 => k_asm); (case k3 => k_asm); (case k4 => k_asm); (case k5 => k_asm); (case kK => first | exact rfl | assumption); (case kd => ktr_room); (case ku => ktr_units); (case ha => (walk_at "NTa")); (case hb => (walk_at "NTa")); (case hc => (walk_at "NTa")); (case hd => (walk_at "NTa")); (case he => (walk_at "NTa")); (case hf => (walk_at "NTa")); intro r9 tl9 h9 tk9 F9 N9 ho9; obtain ⟨R9, m9, e9, hm9, hR9, hn9⟩ := ho9; (try dsimp only); (try k_fold)))
  trivial
end
section
set_option maxRecDepth 100000 in
set_option maxHeartbeats 8000000 in
theorem c_rounded {w : World} {mean mg mb} (news : List (Addr × Obj)) (p t b : Int) (t1 t2 t3 : Tok) (hp1 : 2 ≤ p) (hp2 : p ≤ 8) (ht1 : -31 ≤ t) (ht2 : t ≤ 31) (hb1 : 1 ≤ b) (hb2 : b ≤ 15) :
    Does w mean mg mb 156 14 [.int p t1, .int t t2, .int b t3] news (fun tl r => ∃ m e, NumIn tl r (.real m e) ∧ NearSpec p t b m e) := by
  have ⟨hs1, hs2⟩ := rdShift hp1 hp2 ht1 ht2 hb1 hb2
  by_cases h0 : t = 0
  · subst h0
    unfold Does
    k_fill
    intro dp un gd cn cs aF ccd cl outer A₀ base h₀ L mF s Q E B F X N T hK9 hD9 hU9 hret
    refine wpAny_call ?_
    k_dflt (refine' code_def (binds := [(Str.ofString "precision", .int p t1), (Str.ofString "top", .int 0 t2), (Str.ofString "bottom", .int b t3)]) ?k1 ?k2 ?k3 ?k4 ?k5 ?kA ?kF ?kK ?k6 ?k7 ?k8 ?k9 ?kB ?_ ?c2 ?c3 ?c4 ?c5; (case kA => exact rfl); (case kF => exact rfl); (case kK => assumption); (case k1 => k_asm); (case k2 => k_asm); (case k3 => k_asm); (case k4 => k_asm); (case k5 => k_asm); (case k6 => k_is); (case k7 => k_is); (case k8 => ktr_room); (case k9 => exact BindsTo.of_eq rfl); (case c5 => decide); (case kB => exact locs rfl); (case c2 => exact rfl); (case c3 => exact rfl); (case c4 => exact rfl); k_whole; intro g' L' h' FG' F' N' B' X' T'; (try dsimp only); (try k_fold))
  
    k_steps
    rename NumIn _ _ _ => hN
    exact ret_all hret (by assumption) (by assumption) (by ktd_sub) ⟨_, _, hN.mono (by ktd_sub), .inl ⟨rfl, rfl, rfl⟩⟩
  have hK := rdA h0 hp1 hp2 ht1 ht2 hb1 hb2
  have hK' := rdA' h0 hp1 hp2 ht1 ht2 hb1 hb2
  have hZ := rdB (r := ((if t < 0 then -t else t) * 2 ^ (p + 2 + (Builtin.Int.intBits b : Int) - (Builtin.Int.intBits t : Int)).toNat).fmod b) h0 hp1 hp2 hK.1 hK.2
  unfold Does
  k_fill
  intro dp un gd cn cs aF ccd cl outer A₀ base h₀ L mF s Q E B F X N T hK9 hD9 hU9 hret
  refine wpAny_call ?_
  k_dflt (refine' code_def (binds := [(Str.ofString "precision", .int p t1), (Str.ofString "top", .int t t2), (Str.ofString "bottom", .int b t3)]) ?k1 ?k2 ?k3 ?k4 ?k5 ?kA ?kF ?kK ?k6 ?k7 ?k8 ?k9 ?kB ?_ ?c2 ?c3 ?c4 ?c5; (case kA => exact rfl); (case kF => exact rfl); (case kK => assumption); (case k1 => k_asm); (case k2 => k_asm); (case k3 => k_asm); (case k4 => k_asm); (case k5 => k_asm); (case k6 => k_is); (case k7 => k_is); (case k8 => ktr_room); (case k9 => exact BindsTo.of_eq rfl); (case c5 => decide); (case kB => exact locs rfl); (case c2 => exact rfl); (case c3 => exact rfl); (case c4 => exact rfl); k_whole; intro g' L' h' FG' F' N' B' X' T'; (try dsimp only); (try k_fold))

  k_steps
  rename NumIn _ _ _ => hN
  refine ret_all hret (by assumption) (by assumption) (by ktd_sub) ⟨_, _, hN.mono (by ktd_sub), ?_⟩
  exact rdD h0 hp1 hp2 ht1 ht2 hb1 hb2 (by assumption) (by assumption)
theorem laid_NTW3_1 : True := by
  k_with "NT call ref" => (k_here; (with_reducible show wpAny _ _ (PySem.call (Value.ref 156) _ _) _ _ _); k_dflt (refine' Does.use (c_rounded _ _ _ _ _ _ _ ?ha ?hb ?hc ?hd ?he ?hf) ?k1 ?k2 ?k3 ?k4 ?k5 ?kK ?kd ?ku ?_; (case k1 => k_asm); (case k2 => k_asm); (case k3 => k_asm); (case k4 => k_asm); (case k5 => k_asm); (case kK => first | exact rfl | assumption); (case kd => ktr_room); (case ku => ktr_units); (case ha => (walk_at "NTa")); (case hb => (walk_at "NTa")); (case hc => (walk_at "NTa")); (case hd => (walk_at "NTa")); (case he => (walk_at "NTa")); (case hf => (walk_at "NTa")); intro r9 tl9 h9 tk9 F9 N9 ho9; obtain ⟨m9, e9, hm9, hs9⟩ := ho9; (try dsimp only); (try k_fold)))
  trivial
end
section
set_option maxRecDepth 100000 in
set_option maxHeartbeats 8000000 in
theorem c_exparts {w : World} {mean mg mb} (news : List (Addr × Obj)) (v : Value) (m e : Int) (hv : NumIn news v (.real m e)) (hm1 : -1000 ≤ m) (hm2 : m ≤ 1000) (he1 : -1000 ≤ e) (he2 : e ≤ 1000) :
    Does w mean mg mb 163 3 [v] news (fun tl r => ∃ a p q u1 u2, r = .ref a ∧ (a, tupOf [.int p u1, .int q u2]) ∈ tl ∧ p = (Num.real m e).fT ∧ q = (Num.real m e).fB) := by
  cases hv
  rename_i x dx h1 h2 t1 u1 t2 u2 hi1 hi2
  unfold Does
  k_fill
  intro dp un gd cn cs aF ccd cl outer A₀ base h₀ L mF s Q E B F X N T hK9 hD9 hU9 hret
  refine wpAny_call ?_
  k_dflt (refine' code_def (binds := [(Str.ofString "real", .ref x)]) ?k1 ?k2 ?k3 ?k4 ?k5 ?kA ?kF ?kK ?k6 ?k7 ?k8 ?k9 ?kB ?_ ?c2 ?c3 ?c4 ?c5; (case kA => exact rfl); (case kF => exact rfl); (case kK => assumption); (case k1 => k_asm); (case k2 => k_asm); (case k3 => k_asm); (case k4 => k_asm); (case k5 => k_asm); (case k6 => k_is); (case k7 => k_is); (case k8 => ktr_room); (case k9 => exact BindsTo.of_eq rfl); (case c5 => decide); (case kB => exact locs rfl); (case c2 => exact rfl); (case c3 => exact rfl); (case c4 => exact rfl); k_whole; intro g' L' h' FG' F' N' B' X' T'; (try dsimp only); (try k_fold))

  k_steps
  · refine' ret_all hret (by assumption) (by assumption) (by ktd_sub) ⟨_, _, _, _, _, rfl, ?hm, ?he, ?hf⟩
    case hm => k_mem
    case he => rw [Num.fT, if_pos (by assumption)]
    case hf => rw [Num.fB, if_pos (by assumption)]
  · refine' ret_all hret (by assumption) (by assumption) (by ktd_sub) ⟨_, _, _, _, _, rfl, ?hm, ?he, ?hf⟩
    case hm => k_mem
    case he => rw [Num.fT, if_neg (by assumption)]
    case hf => rw [Num.fB, if_neg (by assumption), Int.one_mul]
theorem laid_NTW4_1 : True := by
  k_with "NT call ref" => (k_here; (with_reducible show wpAny _ _ (PySem.call (Value.ref 163) _ _) _ _ _); k_dflt (refine' Does.use (c_exparts _ _ _ _ ?ha ?hb ?hc ?hd ?he) ?k1 ?k2 ?k3 ?k4 ?k5 ?kK ?kd ?ku ?_; (case k1 => k_asm); (case k2 => k_asm); (case k3 => k_asm); (case k4 => k_asm); (case k5 => k_asm); (case kK => first | exact rfl | assumption); (case kd => ktr_room); (case ku => ktr_units); (case ha => (walk_at "NTn")); (case hb => (walk_at "NTa")); (case hc => (walk_at "NTa")); (case hd => (walk_at "NTa")); (case he => (walk_at "NTa")); intro r9 tl9 h9 tk9 F9 N9 ho9; obtain ⟨a9, p9, q9, u9, v9, e9, hm9, hp9, hq9⟩ := ho9; subst e9; subst hp9; subst hq9; (try dsimp only); (try k_fold)))
  trivial
set_option maxRecDepth 100000 in
set_option maxHeartbeats 8000000 in
theorem c_place {w : World} {mean mg mb} (news : List (Addr × Obj)) (v : Value) (m e : Int) (hv : NumIn news v (.real m e)) :
    Does w mean mg mb 170 6 [v] news (fun _ r => ∃ u, r = .int ((Builtin.Int.intBits m : Int) + e) u) := by
  cases hv
  rename_i x dx h1 h2 t1 u1 t2 u2 hi1 hi2
  unfold Does
  k_fill
  intro dp un gd cn cs aF ccd cl outer A₀ base h₀ L mF s Q E B F X N T hK9 hD9 hU9 hret
  refine wpAny_call ?_
  k_dflt (refine' code_def (binds := [(Str.ofString "real", .ref x)]) ?k1 ?k2 ?k3 ?k4 ?k5 ?kA ?kF ?kK ?k6 ?k7 ?k8 ?k9 ?kB ?_ ?c2 ?c3 ?c4 ?c5; (case kA => exact rfl); (case kF => exact rfl); (case kK => assumption); (case k1 => k_asm); (case k2 => k_asm); (case k3 => k_asm); (case k4 => k_asm); (case k5 => k_asm); (case k6 => k_is); (case k7 => k_is); (case k8 => ktr_room); (case k9 => exact BindsTo.of_eq rfl); (case c5 => decide); (case kB => exact locs rfl); (case c2 => exact rfl); (case c3 => exact rfl); (case c4 => exact rfl); k_whole; intro g' L' h' FG' F' N' B' X' T'; (try dsimp only); (try k_fold))

  k_steps
  exact ret_all hret (by assumption) (by assumption) (by ktd_sub) ⟨_, rfl⟩
theorem laid_NTW4_2 : True := by
  k_with "NT call ref" => (k_here; (with_reducible show wpAny _ _ (PySem.call (Value.ref 170) _ _) _ _ _); k_dflt (refine' Does.use (c_place _ _ _ _ ?ha) ?k1 ?k2 ?k3 ?k4 ?k5 ?kK ?kd ?ku ?_; (case k1 => k_asm); (case k2 => k_asm); (case k3 => k_asm); (case k4 => k_asm); (case k5 => k_asm); (case kK => first | exact rfl | assumption); (case kd => ktr_room); (case ku => ktr_units); (case ha => (walk_at "NTn")); intro r9 tl9 h9 tk9 F9 N9 ho9; obtain ⟨u9, e9⟩ := ho9; subst e9; (try dsimp only); (try k_fold)))
  trivial
set_option maxRecDepth 100000 in
set_option maxHeartbeats 8000000 in
theorem c_signof {w : World} {mean mg mb} (news : List (Addr × Obj)) (v : Value) (m e : Int) (hv : NumIn news v (.real m e)) :
    Does w mean mg mb 177 6 [v] news (fun _ r => ∃ u, r = .int m.sign u) := by
  cases hv
  rename_i x dx h1 h2 t1 u1 t2 u2 hi1 hi2
  unfold Does
  k_fill
  intro dp un gd cn cs aF ccd cl outer A₀ base h₀ L mF s Q E B F X N T hK9 hD9 hU9 hret
  refine wpAny_call ?_
  k_dflt (refine' code_def (binds := [(Str.ofString "real", .ref x)]) ?k1 ?k2 ?k3 ?k4 ?k5 ?kA ?kF ?kK ?k6 ?k7 ?k8 ?k9 ?kB ?_ ?c2 ?c3 ?c4 ?c5; (case kA => exact rfl); (case kF => exact rfl); (case kK => assumption); (case k1 => k_asm); (case k2 => k_asm); (case k3 => k_asm); (case k4 => k_asm); (case k5 => k_asm); (case k6 => k_is); (case k7 => k_is); (case k8 => ktr_room); (case k9 => exact BindsTo.of_eq rfl); (case c5 => decide); (case kB => exact locs rfl); (case c2 => exact rfl); (case c3 => exact rfl); (case c4 => exact rfl); k_whole; intro g' L' h' FG' F' N' B' X' T'; (try dsimp only); (try k_fold))

  k_steps
  exact ret_all hret (by assumption) (by assumption) (by ktd_sub) ⟨_, rfl⟩
theorem laid_NTW4_3 : True := by
  k_with "NT call ref" => (k_here; (with_reducible show wpAny _ _ (PySem.call (Value.ref 177) _ _) _ _ _); k_dflt (refine' Does.use (c_signof _ _ _ _ ?ha) ?k1 ?k2 ?k3 ?k4 ?k5 ?kK ?kd ?ku ?_; (case k1 => k_asm); (case k2 => k_asm); (case k3 => k_asm); (case k4 => k_asm); (case k5 => k_asm); (case kK => first | exact rfl | assumption); (case kd => ktr_room); (case ku => ktr_units); (case ha => (walk_at "NTn")); intro r9 tl9 h9 tk9 F9 N9 ho9; obtain ⟨u9, e9⟩ := ho9; subst e9; (try dsimp only); (try k_fold)))
  trivial
set_option maxRecDepth 100000 in
set_option maxHeartbeats 8000000 in
theorem c_negative {w : World} {mean mg mb} (news : List (Addr × Obj)) (v : Value) (m e : Int) (hv : NumIn news v (.real m e)) :
    Does w mean mg mb 184 6 [v] news (fun tl r => NumIn tl r (.real (-m) e)) := by
  cases hv
  rename_i x dx h1 h2 t1 u1 t2 u2 hi1 hi2
  unfold Does
  k_fill
  intro dp un gd cn cs aF ccd cl outer A₀ base h₀ L mF s Q E B F X N T hK9 hD9 hU9 hret
  refine wpAny_call ?_
  k_dflt (refine' code_def (binds := [(Str.ofString "real", .ref x)]) ?k1 ?k2 ?k3 ?k4 ?k5 ?kA ?kF ?kK ?k6 ?k7 ?k8 ?k9 ?kB ?_ ?c2 ?c3 ?c4 ?c5; (case kA => exact rfl); (case kF => exact rfl); (case kK => assumption); (case k1 => k_asm); (case k2 => k_asm); (case k3 => k_asm); (case k4 => k_asm); (case k5 => k_asm); (case k6 => k_is); (case k7 => k_is); (case k8 => ktr_room); (case k9 => exact BindsTo.of_eq rfl); (case c5 => decide); (case kB => exact locs rfl); (case c2 => exact rfl); (case c3 => exact rfl); (case c4 => exact rfl); k_whole; intro g' L' h' FG' F' N' B' X' T'; (try dsimp only); (try k_fold))

  k_steps
  rename NumIn _ _ _ => hN
  exact ret_all hret (by assumption) (by assumption) (by ktd_sub) (by rw [← Int.zero_sub]; exact hN.mono (by ktd_sub))
theorem laid_NTW4_4 : True := by
  k_with "NT call ref" => (k_here; (with_reducible show wpAny _ _ (PySem.call (Value.ref 184) _ _) _ _ _); k_dflt (refine' Does.use (c_negative _ _ _ _ ?ha) ?k1 ?k2 ?k3 ?k4 ?k5 ?kK ?kd ?ku ?_; (case k1 => k_asm); (case k2 => k_asm); (case k3 => k_asm); (case k4 => k_asm); (case k5 => k_asm); (case kK => first | exact rfl | assumption); (case kd => ktr_room); (case ku => ktr_units); (case ha => (walk_at "NTn")); intro r9 tl9 h9 tk9 F9 N9 ho9; (try dsimp only); (try k_fold)))
  trivial
set_option maxRecDepth 100000 in
set_option maxHeartbeats 8000000 in
theorem c_magnitude {w : World} {mean mg mb} (news : List (Addr × Obj)) (v : Value) (m e : Int) (hv : NumIn news v (.real m e)) :
    Does w mean mg mb 191 6 [v] news (fun tl r => NumIn tl r (.real (m.natAbs : Int) e)) := by
  cases hv
  rename_i x dx h1 h2 t1 u1 t2 u2 hi1 hi2
  unfold Does
  k_fill
  intro dp un gd cn cs aF ccd cl outer A₀ base h₀ L mF s Q E B F X N T hK9 hD9 hU9 hret
  refine wpAny_call ?_
  k_dflt (refine' code_def (binds := [(Str.ofString "real", .ref x)]) ?k1 ?k2 ?k3 ?k4 ?k5 ?kA ?kF ?kK ?k6 ?k7 ?k8 ?k9 ?kB ?_ ?c2 ?c3 ?c4 ?c5; (case kA => exact rfl); (case kF => exact rfl); (case kK => assumption); (case k1 => k_asm); (case k2 => k_asm); (case k3 => k_asm); (case k4 => k_asm); (case k5 => k_asm); (case k6 => k_is); (case k7 => k_is); (case k8 => ktr_room); (case k9 => exact BindsTo.of_eq rfl); (case c5 => decide); (case kB => exact locs rfl); (case c2 => exact rfl); (case c3 => exact rfl); (case c4 => exact rfl); k_whole; intro g' L' h' FG' F' N' B' X' T'; (try dsimp only); (try k_fold))

  k_steps
  rename NumIn _ _ _ => hN
  exact ret_all hret (by assumption) (by assumption) (by ktd_sub) (by rw [← ite_natAbs]; exact hN.mono (by ktd_sub))
theorem laid_NTW4_5 : True := by
  k_with "NT call ref" => (k_here; (with_reducible show wpAny _ _ (PySem.call (Value.ref 191) _ _) _ _ _); k_dflt (refine' Does.use (c_magnitude _ _ _ _ ?ha) ?k1 ?k2 ?k3 ?k4 ?k5 ?kK ?kd ?ku ?_; (case k1 => k_asm); (case k2 => k_asm); (case k3 => k_asm); (case k4 => k_asm); (case k5 => k_asm); (case kK => first | exact rfl | assumption); (case kd => ktr_room); (case ku => ktr_units); (case ha => (walk_at "NTn")); intro r9 tl9 h9 tk9 F9 N9 ho9; (try dsimp only); (try k_fold)))
  trivial
set_option maxRecDepth 100000 in
set_option maxHeartbeats 8000000 in
theorem c_same {w : World} {mean mg mb} (news : List (Addr × Obj)) (v v' : Value) (m e m' e' : Int) (hv : NumIn news v (.real m e)) (hv' : NumIn news v' (.real m' e')) :
    Does w mean mg mb 198 3 [v, v'] news (fun _ r => r = .bool (decide (m = m' ∧ e = e'))) := by
  cases hv
  rename_i x dx h1 h2 t1 u1 t2 u2 hi1 hi2
  cases hv'
  rename_i x' dx' h1' h2' t1' u1' t2' u2' hi1' hi2'
  unfold Does
  k_fill
  intro dp un gd cn cs aF ccd cl outer A₀ base h₀ L mF s Q E B F X N T hK9 hD9 hU9 hret
  refine wpAny_call ?_
  k_dflt (refine' code_def (binds := [(Str.ofString "one", .ref x), (Str.ofString "other", .ref x')]) ?k1 ?k2 ?k3 ?k4 ?k5 ?kA ?kF ?kK ?k6 ?k7 ?k8 ?k9 ?kB ?_ ?c2 ?c3 ?c4 ?c5; (case kA => exact rfl); (case kF => exact rfl); (case kK => assumption); (case k1 => k_asm); (case k2 => k_asm); (case k3 => k_asm); (case k4 => k_asm); (case k5 => k_asm); (case k6 => k_is); (case k7 => k_is); (case k8 => ktr_room); (case k9 => exact BindsTo.of_eq rfl); (case c5 => decide); (case kB => exact locs rfl); (case c2 => exact rfl); (case c3 => exact rfl); (case c4 => exact rfl); k_whole; intro g' L' h' FG' F' N' B' X' T'; (try dsimp only); (try k_fold))

  k_steps
  · refine ret_all hret (by assumption) (by assumption) (by ktd_sub) ?_
    rw [‹m = m'›]; by_cases h : e = e' <;> simp [h]
  · refine ret_all hret (by assumption) (by assumption) (by ktd_sub) ?_
    have h : m ≠ m' := by assumption
    simp [h]
theorem laid_NTW4_6 : True := by
  k_with "NT call ref" => (k_here; (with_reducible show wpAny _ _ (PySem.call (Value.ref 198) _ _) _ _ _); k_dflt (refine' Does.use (c_same _ _ _ _ _ _ _ ?ha ?hb) ?k1 ?k2 ?k3 ?k4 ?k5 ?kK ?kd ?ku ?_; (case k1 => k_asm); (case k2 => k_asm); (case k3 => k_asm); (case k4 => k_asm); (case k5 => k_asm); (case kK => first | exact rfl | assumption); (case kd => ktr_room); (case ku => ktr_units); (case ha => (walk_at "NTn")); (case hb => (walk_at "NTn")); intro r9 tl9 h9 tk9 F9 N9 ho9; (have e9 : _ = _ := ho9); clear ho9; subst e9; (try dsimp only); (try k_fold)))
  trivial
end
section
set_option maxRecDepth 100000 in
set_option maxHeartbeats 8000000 in
theorem c_cmpmag {w : World} {mean mg mb} (news : List (Addr × Obj)) (v v' : Value) (m e m' e' : Int) (hv : NumIn news v (.real m e)) (hv' : NumIn news v' (.real m' e')) (hm0 : 0 < m) (hm1 : m ≤ 1000) (hm0' : 0 < m') (hm1' : m' ≤ 1000) (he1 : -30 ≤ e) (he2 : e ≤ 30) (he1' : -30 ≤ e') (he2' : e' ≤ 30) :
    Does w mean mg mb 205 10 [v, v'] news (fun _ r => ∃ u, r = .int (sc m e - sc m' e').sign u) := by
  have hv0 := hv
  cases hv
  rename_i x dx h1 h2 t1 u1 t2 u2 hi1 hi2
  have hv0' := hv'
  cases hv'
  rename_i x' dx' h1' h2' t1' u1' t2' u2' hi1' hi2'
  unfold Does
  k_fill
  intro dp un gd cn cs aF ccd cl outer A₀ base h₀ L mF s Q E B F X N T hK9 hD9 hU9 hret
  refine wpAny_call ?_
  k_dflt (refine' code_def (binds := [(Str.ofString "one", .ref x), (Str.ofString "other", .ref x')]) ?k1 ?k2 ?k3 ?k4 ?k5 ?kA ?kF ?kK ?k6 ?k7 ?k8 ?k9 ?kB ?_ ?c2 ?c3 ?c4 ?c5; (case kA => exact rfl); (case kF => exact rfl); (case kK => assumption); (case k1 => k_asm); (case k2 => k_asm); (case k3 => k_asm); (case k4 => k_asm); (case k5 => k_asm); (case k6 => k_is); (case k7 => k_is); (case k8 => ktr_room); (case k9 => exact BindsTo.of_eq rfl); (case c5 => decide); (case kB => exact locs rfl); (case c2 => exact rfl); (case c3 => exact rfl); (case c4 => exact rfl); k_whole; intro g' L' h' FG' F' N' B' X' T'; (try dsimp only); (try k_fold))

  k_steps
  · exact ret_all hret (by assumption) (by assumption) (by ktd_sub) ⟨_, by rw [← cm_sign_gt hm0 hm0' (by omega) (by omega) (by assumption)]⟩
  · exact ret_all hret (by assumption) (by assumption) (by ktd_sub) ⟨_, by rw [← cm_sign_lt hm0 hm0' (by omega) (by omega) (by omega)]⟩
  · exact ret_all hret (by assumption) (by assumption) (by ktd_sub) ⟨_, by rw [cm_eq (by split <;> omega) (by split <;> omega) (by split <;> omega)]⟩
theorem laid_NTW5_1 : True := by
  k_with "NT call ref" => (k_here; (with_reducible show wpAny _ _ (PySem.call (Value.ref 205) _ _) _ _ _); k_dflt (refine' Does.use (c_cmpmag _ _ _ _ _ _ _ ?ha ?hb ?hc ?hd ?he ?hf ?hg ?hh ?hi ?hj) ?k1 ?k2 ?k3 ?k4 ?k5 ?kK ?kd ?ku ?_; (case k1 => k_asm); (case k2 => k_asm); (case k3 => k_asm); (case k4 => k_asm); (case k5 => k_asm); (case kK => first | exact rfl | assumption); (case kd => ktr_room); (case ku => ktr_units); (case ha => (walk_at "NTn")); (case hb => (walk_at "NTn")); (case hc => (walk_at "NTa")); (case hd => (walk_at "NTa")); (case he => (walk_at "NTa")); (case hf => (walk_at "NTa")); (case hg => (walk_at "NTa")); (case hh => (walk_at "NTa")); (case hi => (walk_at "NTa")); (case hj => (walk_at "NTa")); intro r9 tl9 h9 tk9 F9 N9 ho9; obtain ⟨u9, e9⟩ := ho9; subst e9; (try dsimp only); (try k_fold)))
  trivial
set_option maxRecDepth 100000 in
set_option maxHeartbeats 8000000 in
theorem c_cmpreals {w : World} {mean mg mb} (news : List (Addr × Obj)) (v v' : Value) (m e m' e' : Int) (hv : NumIn news v (.real m e)) (hv' : NumIn news v' (.real m' e')) (hm0 : -1000 ≤ m) (hm1 : m ≤ 1000) (hm0' : -1000 ≤ m') (hm1' : m' ≤ 1000) (he1 : -30 ≤ e) (he2 : e ≤ 30) (he1' : -30 ≤ e') (he2' : e' ≤ 30) :
    Does w mean mg mb 212 16 [v, v'] news (fun _ r => ∃ u, r = .int (sc m e - sc m' e').sign u) := by
  have hs := @Int.sign_eq_zero_iff_zero m
  have hs' := @Int.sign_eq_zero_iff_zero m'
  unfold Does
  k_fill
  intro dp un gd cn cs aF ccd cl outer A₀ base h₀ L mF s Q E B F X N T hK9 hD9 hU9 hret
  refine wpAny_call ?_
  k_dflt (refine' code_def (binds := [(Str.ofString "one", v), (Str.ofString "other", v')]) ?k1 ?k2 ?k3 ?k4 ?k5 ?kA ?kF ?kK ?k6 ?k7 ?k8 ?k9 ?kB ?_ ?c2 ?c3 ?c4 ?c5; (case kA => exact rfl); (case kF => exact rfl); (case kK => assumption); (case k1 => k_asm); (case k2 => k_asm); (case k3 => k_asm); (case k4 => k_asm); (case k5 => k_asm); (case k6 => k_is); (case k7 => k_is); (case k8 => ktr_room); (case k9 => exact BindsTo.of_eq rfl); (case c5 => decide); (case kB => exact locs rfl); (case c2 => exact rfl); (case c3 => exact rfl); (case c4 => exact rfl); k_whole; intro g' L' h' FG' F' N' B' X' T'; (try dsimp only); (try k_fold))

  k_steps
  · exact ret_all hret (by assumption) (by assumption) (by ktd_sub) ⟨_, by rw [← cr_gt (by assumption)]⟩
  · exact ret_all hret (by assumption) (by assumption) (by ktd_sub) ⟨_, by rw [← cr_lt (by omega)]⟩
  · exact ret_all hret (by assumption) (by assumption) (by ktd_sub) ⟨_, by rw [← cr_zero (by assumption) (by assumption)]⟩
  · exact ret_all hret (by assumption) (by assumption) (by ktd_sub) ⟨_, by rw [cr_eq (by assumption) (by assumption)]⟩
theorem laid_NTW5_2 : True := by
  k_with "NT call ref" => (k_here; (with_reducible show wpAny _ _ (PySem.call (Value.ref 212) _ _) _ _ _); k_dflt (refine' Does.use (c_cmpreals _ _ _ _ _ _ _ ?ha ?hb ?hc ?hd ?he ?hf ?hg ?hh ?hi ?hj) ?k1 ?k2 ?k3 ?k4 ?k5 ?kK ?kd ?ku ?_; (case k1 => k_asm); (case k2 => k_asm); (case k3 => k_asm); (case k4 => k_asm); (case k5 => k_asm); (case kK => first | exact rfl | assumption); (case kd => ktr_room); (case ku => ktr_units); (case ha => (walk_at "NTn")); (case hb => (walk_at "NTn")); (case hc => (walk_at "NTa")); (case hd => (walk_at "NTa")); (case he => (walk_at "NTa")); (case hf => (walk_at "NTa")); (case hg => (walk_at "NTa")); (case hh => (walk_at "NTa")); (case hi => (walk_at "NTa")); (case hj => (walk_at "NTa")); intro r9 tl9 h9 tk9 F9 N9 ho9; obtain ⟨u9, e9⟩ := ho9; subst e9; (try dsimp only); (try k_fold)))
  trivial
end
section
set_option maxRecDepth 100000 in
set_option maxHeartbeats 8000000 in
theorem c_fullm {w : World} {mean mg mb} (news : List (Addr × Obj)) (p : Int) (t0 : Tok) (v : Value) (m e : Int) (hv : NumIn news v (.real m e)) (hp2 : p ≤ 8) (hb1 : (Builtin.Int.intBits m : Int) ≤ p) (hm1 : -1000 ≤ m) (hm2 : m ≤ 1000) :
    Does w mean mg mb 219 6 [.int p t0, v] news (fun tl r => ∃ a P u1 u2, r = .ref a ∧ (a, tupOf [.int P u1, .int (e - (p - (Builtin.Int.intBits m : Int))) u2]) ∈ tl ∧ P = fmOf p m) := by
  have hv0 := hv
  cases hv
  rename_i x dx h1 h2 t1 u1 t2 u2 hi1 hi2
  unfold Does
  k_fill
  intro dp un gd cn cs aF ccd cl outer A₀ base h₀ L mF s Q E B F X N T hK9 hD9 hU9 hret
  refine wpAny_call ?_
  k_dflt (refine' code_def (binds := [(Str.ofString "precision", .int p t0), (Str.ofString "real", .ref x)]) ?k1 ?k2 ?k3 ?k4 ?k5 ?kA ?kF ?kK ?k6 ?k7 ?k8 ?k9 ?kB ?_ ?c2 ?c3 ?c4 ?c5; (case kA => exact rfl); (case kF => exact rfl); (case kK => assumption); (case k1 => k_asm); (case k2 => k_asm); (case k3 => k_asm); (case k4 => k_asm); (case k5 => k_asm); (case k6 => k_is); (case k7 => k_is); (case k8 => ktr_room); (case k9 => exact BindsTo.of_eq rfl); (case c5 => decide); (case kB => exact locs rfl); (case c2 => exact rfl); (case c3 => exact rfl); (case c4 => exact rfl); k_whole; intro g' L' h' FG' F' N' B' X' T'; (try dsimp only); (try k_fold))

  k_steps
  refine' ret_all hret (by assumption) (by assumption) (by ktd_sub) ⟨_, _, _, _, rfl, ?hm, ?he⟩
  case hm => k_mem
  case he => rw [ite_natAbs, fmOf]
theorem laid_NTW6_1 : True := by
  k_with "NT call ref" => (k_here; (with_reducible show wpAny _ _ (PySem.call (Value.ref 219) _ _) _ _ _); k_dflt (refine' Does.use (c_fullm _ _ _ _ _ _ ?ha ?hb ?hc ?hd ?he) ?k1 ?k2 ?k3 ?k4 ?k5 ?kK ?kd ?ku ?_; (case k1 => k_asm); (case k2 => k_asm); (case k3 => k_asm); (case k4 => k_asm); (case k5 => k_asm); (case kK => first | exact rfl | assumption); (case kd => ktr_room); (case ku => ktr_units); (case ha => (walk_at "NTn")); (case hb => (walk_at "NTa")); (case hc => (walk_at "NTa")); (case hd => (walk_at "NTa")); (case he => (walk_at "NTa")); intro r9 tl9 h9 tk9 F9 N9 ho9; obtain ⟨a9, P9, u9, v9, e9, hm9, hP9⟩ := ho9; subst e9; subst hP9; (try dsimp only); (try k_fold)))
  trivial
set_option maxRecDepth 100000 in
set_option maxHeartbeats 8000000 in
theorem c_farther {w : World} {mean mg mb} (news : List (Addr × Obj)) (p : Int) (t0 : Tok) (v : Value) (m e : Int) (hv : NumIn news v (.real m e)) (hp1 : 2 ≤ p) (hp2 : p ≤ 8) (hm : m ≠ 0) (hb : m.natAbs < 2 ^ p.toNat) (hm1 : -1000 ≤ m) (hm2 : m ≤ 1000) (he1 : -30 ≤ e) (he2 : e ≤ 30) :
    Does w mean mg mb 226 12 [.int p t0, v] news (fun tl r => ∃ m' e', NumIn tl r (.real m' e') ∧ NormOf (m.sign * (fmOf p m + 1)) (e - (p - (Builtin.Int.intBits m : Int))) m' e') := by
  obtain ⟨q1, q2, q3, q4⟩ := fm_bnd' hp1 hp2 hm hb
  unfold Does
  k_fill
  intro dp un gd cn cs aF ccd cl outer A₀ base h₀ L mF s Q E B F X N T hK9 hD9 hU9 hret
  refine wpAny_call ?_
  k_dflt (refine' code_def (binds := [(Str.ofString "precision", .int p t0), (Str.ofString "real", v)]) ?k1 ?k2 ?k3 ?k4 ?k5 ?kA ?kF ?kK ?k6 ?k7 ?k8 ?k9 ?kB ?_ ?c2 ?c3 ?c4 ?c5; (case kA => exact rfl); (case kF => exact rfl); (case kK => assumption); (case k1 => k_asm); (case k2 => k_asm); (case k3 => k_asm); (case k4 => k_asm); (case k5 => k_asm); (case k6 => k_is); (case k7 => k_is); (case k8 => ktr_room); (case k9 => exact BindsTo.of_eq rfl); (case c5 => decide); (case kB => exact locs rfl); (case c2 => exact rfl); (case c3 => exact rfl); (case c4 => exact rfl); k_whole; intro g' L' h' FG' F' N' B' X' T'; (try dsimp only); (try k_fold))

  k_steps
  rename NumIn _ _ _ => hN
  exact ret_all hret (by assumption) (by assumption) (by ktd_sub) ⟨_, _, hN.mono (by ktd_sub), by assumption⟩
theorem laid_NTW6_2 : True := by
  k_with "NT call ref" => (k_here; (with_reducible show wpAny _ _ (PySem.call (Value.ref 226) _ _) _ _ _); k_dflt (refine' Does.use (c_farther _ _ _ _ _ _ ?ha ?hb ?hc ?hd ?he ?hf ?hg ?hh ?hi) ?k1 ?k2 ?k3 ?k4 ?k5 ?kK ?kd ?ku ?_; (case k1 => k_asm); (case k2 => k_asm); (case k3 => k_asm); (case k4 => k_asm); (case k5 => k_asm); (case kK => first | exact rfl | assumption); (case kd => ktr_room); (case ku => ktr_units); (case ha => (walk_at "NTn")); (case hb => (walk_at "NTa")); (case hc => (walk_at "NTa")); (case hd => (walk_at "NTa")); (case he => (walk_at "NTa")); (case hf => (walk_at "NTa")); (case hg => (walk_at "NTa")); (case hh => (walk_at "NTa")); (case hi => (walk_at "NTa")); intro r9 tl9 h9 tk9 F9 N9 ho9; obtain ⟨m9, e9, hm9, hn9⟩ := ho9; (try dsimp only); (try k_fold)))
  trivial
set_option maxRecDepth 100000 in
set_option maxHeartbeats 8000000 in
theorem c_nearer {w : World} {mean mg mb} (news : List (Addr × Obj)) (p : Int) (t0 : Tok) (v : Value) (m e : Int) (hv : NumIn news v (.real m e)) (hp1 : 2 ≤ p) (hp2 : p ≤ 8) (hm : m < 0) (hb : m.natAbs < 2 ^ p.toNat) (hm1 : -1000 ≤ m) (hm2 : m ≤ 1000) (he1 : -30 ≤ e) (he2 : e ≤ 30) :
    Does w mean mg mb 233 12 [.int p t0, v] news (fun tl r => ∃ m' e', NumIn tl r (.real m' e') ∧ NextSpec p m e 1 m' e') := by
  obtain ⟨q1, q2, q3, q4⟩ := fm_bnd' hp1 hp2 (by omega) hb
  unfold Does
  k_fill
  intro dp un gd cn cs aF ccd cl outer A₀ base h₀ L mF s Q E B F X N T hK9 hD9 hU9 hret
  refine wpAny_call ?_
  k_dflt (refine' code_def (binds := [(Str.ofString "precision", .int p t0), (Str.ofString "real", v)]) ?k1 ?k2 ?k3 ?k4 ?k5 ?kA ?kF ?kK ?k6 ?k7 ?k8 ?k9 ?kB ?_ ?c2 ?c3 ?c4 ?c5; (case kA => exact rfl); (case kF => exact rfl); (case kK => assumption); (case k1 => k_asm); (case k2 => k_asm); (case k3 => k_asm); (case k4 => k_asm); (case k5 => k_asm); (case k6 => k_is); (case k7 => k_is); (case k8 => ktr_room); (case k9 => exact BindsTo.of_eq rfl); (case c5 => decide); (case kB => exact locs rfl); (case c2 => exact rfl); (case c3 => exact rfl); (case c4 => exact rfl); k_whole; intro g' L' h' FG' F' N' B' X' T'; (try dsimp only); (try k_fold))

  k_steps
  · rename NumIn _ _ _ => hN
    have hf : fmOf p m = 2 ^ (p - 1).toNat := by omega
    exact ret_all hret (by assumption) (by assumption) (by ktd_sub) ⟨_, _, hN.mono (by ktd_sub), next_near1 hm hf (by assumption)⟩
  · rename NumIn _ _ _ => hN
    have hf : fmOf p m ≠ 2 ^ (p - 1).toNat := by omega
    exact ret_all hret (by assumption) (by assumption) (by ktd_sub) ⟨_, _, hN.mono (by ktd_sub), next_near2 hm hf (by assumption)⟩
theorem laid_NTW6_3 : True := by
  k_with "NT call ref" => (k_here; (with_reducible show wpAny _ _ (PySem.call (Value.ref 233) _ _) _ _ _); k_dflt (refine' Does.use (c_nearer _ _ _ _ _ _ ?ha ?hb ?hc ?hd ?he ?hf ?hg ?hh ?hi) ?k1 ?k2 ?k3 ?k4 ?k5 ?kK ?kd ?ku ?_; (case k1 => k_asm); (case k2 => k_asm); (case k3 => k_asm); (case k4 => k_asm); (case k5 => k_asm); (case kK => first | exact rfl | assumption); (case kd => ktr_room); (case ku => ktr_units); (case ha => (walk_at "NTn")); (case hb => (walk_at "NTa")); (case hc => (walk_at "NTa")); (case hd => (walk_at "NTa")); (case he => (walk_at "NTa")); (case hf => (walk_at "NTa")); (case hg => (walk_at "NTa")); (case hh => (walk_at "NTa")); (case hi => (walk_at "NTa")); intro r9 tl9 h9 tk9 F9 N9 ho9; obtain ⟨m9, e9, hm9, hn9⟩ := ho9; (try dsimp only); (try k_fold)))
  trivial
set_option maxRecDepth 100000 in
set_option maxHeartbeats 8000000 in
theorem c_above {w : World} {mean mg mb} (news : List (Addr × Obj)) (p : Int) (t0 : Tok) (v : Value) (m e : Int) (hv : NumIn news v (.real m e)) (hp1 : 2 ≤ p) (hp2 : p ≤ 8) (hm : m ≠ 0) (hb : m.natAbs < 2 ^ p.toNat) (hm1 : -1000 ≤ m) (hm2 : m ≤ 1000) (he1 : -30 ≤ e) (he2 : e ≤ 30) :
    Does w mean mg mb 240 16 [.int p t0, v] news (fun tl r => ∃ m' e', NumIn tl r (.real m' e') ∧ NextSpec p m e 1 m' e') := by
  have hv0 := hv
  cases hv
  rename_i x dx h1 h2 t1 u1 t2 u2 hi1 hi2
  unfold Does
  k_fill
  intro dp un gd cn cs aF ccd cl outer A₀ base h₀ L mF s Q E B F X N T hK9 hD9 hU9 hret
  refine wpAny_call ?_
  k_dflt (refine' code_def (binds := [(Str.ofString "precision", .int p t0), (Str.ofString "real", .ref x)]) ?k1 ?k2 ?k3 ?k4 ?k5 ?kA ?kF ?kK ?k6 ?k7 ?k8 ?k9 ?kB ?_ ?c2 ?c3 ?c4 ?c5; (case kA => exact rfl); (case kF => exact rfl); (case kK => assumption); (case k1 => k_asm); (case k2 => k_asm); (case k3 => k_asm); (case k4 => k_asm); (case k5 => k_asm); (case k6 => k_is); (case k7 => k_is); (case k8 => ktr_room); (case k9 => exact BindsTo.of_eq rfl); (case c5 => decide); (case kB => exact locs rfl); (case c2 => exact rfl); (case c3 => exact rfl); (case c4 => exact rfl); k_whole; intro g' L' h' FG' F' N' B' X' T'; (try dsimp only); (try k_fold))

  k_steps
  · rename NumIn _ _ _ => hN
    exact ret_all hret (by assumption) (by assumption) (by ktd_sub) ⟨_, _, hN.mono (by ktd_sub), next_far (by assumption) (by assumption)⟩
  · rename NumIn _ _ _ => hN
    exact ret_all hret (by assumption) (by assumption) (by ktd_sub) ⟨_, _, hN.mono (by ktd_sub), by assumption⟩
theorem laid_NTW6_4 : True := by
  k_with "NT call ref" => (k_here; (with_reducible show wpAny _ _ (PySem.call (Value.ref 240) _ _) _ _ _); k_dflt (refine' Does.use (c_above _ _ _ _ _ _ ?ha ?hb ?hc ?hd ?he ?hf ?hg ?hh ?hi) ?k1 ?k2 ?k3 ?k4 ?k5 ?kK ?kd ?ku ?_; (case k1 => k_asm); (case k2 => k_asm); (case k3 => k_asm); (case k4 => k_asm); (case k5 => k_asm); (case kK => first | exact rfl | assumption); (case kd => ktr_room); (case ku => ktr_units); (case ha => (walk_at "NTn")); (case hb => (walk_at "NTa")); (case hc => (walk_at "NTa")); (case hd => (walk_at "NTa")); (case he => (walk_at "NTa")); (case hf => (walk_at "NTa")); (case hg => (walk_at "NTa")); (case hh => (walk_at "NTa")); (case hi => (walk_at "NTa")); intro r9 tl9 h9 tk9 F9 N9 ho9; obtain ⟨m9, e9, hm9, hn9⟩ := ho9; (try dsimp only); (try k_fold)))
  trivial
set_option maxRecDepth 100000 in
set_option maxHeartbeats 8000000 in
theorem c_below {w : World} {mean mg mb} (news : List (Addr × Obj)) (p : Int) (t0 : Tok) (v : Value) (m e : Int) (hv : NumIn news v (.real m e)) (hp1 : 2 ≤ p) (hp2 : p ≤ 8) (hm : m ≠ 0) (hb : m.natAbs < 2 ^ p.toNat) (hm1 : -1000 ≤ m) (hm2 : m ≤ 1000) (he1 : -30 ≤ e) (he2 : e ≤ 30) :
    Does w mean mg mb 247 22 [.int p t0, v] news (fun tl r => ∃ m' e', NumIn tl r (.real m' e') ∧ NextSpec p m e (-1) m' e') := by
  have hb' : (-m).natAbs < 2 ^ p.toNat := by rw [Int.natAbs_neg]; exact hb
  unfold Does
  k_fill
  intro dp un gd cn cs aF ccd cl outer A₀ base h₀ L mF s Q E B F X N T hK9 hD9 hU9 hret
  refine wpAny_call ?_
  k_dflt (refine' code_def (binds := [(Str.ofString "precision", .int p t0), (Str.ofString "real", v)]) ?k1 ?k2 ?k3 ?k4 ?k5 ?kA ?kF ?kK ?k6 ?k7 ?k8 ?k9 ?kB ?_ ?c2 ?c3 ?c4 ?c5; (case kA => exact rfl); (case kF => exact rfl); (case kK => assumption); (case k1 => k_asm); (case k2 => k_asm); (case k3 => k_asm); (case k4 => k_asm); (case k5 => k_asm); (case k6 => k_is); (case k7 => k_is); (case k8 => ktr_room); (case k9 => exact BindsTo.of_eq rfl); (case c5 => decide); (case kB => exact locs rfl); (case c2 => exact rfl); (case c3 => exact rfl); (case c4 => exact rfl); k_whole; intro g' L' h' FG' F' N' B' X' T'; (try dsimp only); (try k_fold))

  k_steps
  rename NumIn _ _ _ => hN
  exact ret_all hret (by assumption) (by assumption) (by ktd_sub) ⟨_, _, hN.mono (by ktd_sub), next_neg hm (by assumption)⟩
theorem laid_NTW6_5 : True := by
  k_with "NT call ref" => (k_here; (with_reducible show wpAny _ _ (PySem.call (Value.ref 247) _ _) _ _ _); k_dflt (refine' Does.use (c_below _ _ _ _ _ _ ?ha ?hb ?hc ?hd ?he ?hf ?hg ?hh ?hi) ?k1 ?k2 ?k3 ?k4 ?k5 ?kK ?kd ?ku ?_; (case k1 => k_asm); (case k2 => k_asm); (case k3 => k_asm); (case k4 => k_asm); (case k5 => k_asm); (case kK => first | exact rfl | assumption); (case kd => ktr_room); (case ku => ktr_units); (case ha => (walk_at "NTn")); (case hb => (walk_at "NTa")); (case hc => (walk_at "NTa")); (case hd => (walk_at "NTa")); (case he => (walk_at "NTa")); (case hf => (walk_at "NTa")); (case hg => (walk_at "NTa")); (case hh => (walk_at "NTa")); (case hi => (walk_at "NTa")); intro r9 tl9 h9 tk9 F9 N9 ho9; obtain ⟨m9, e9, hm9, hn9⟩ := ho9; (try dsimp only); (try k_fold)))
  trivial
end
section
set_option maxRecDepth 100000 in
set_option maxHeartbeats 8000000 in
theorem isi_num {w : World} {A : Around} {E : Value → Shared → Prop} {s : Shared} {h₀ : Heap} {L : Addr} {mF : Str → Option Value} {news : List (Addr × Obj)} {v : Value} {x : Num} {Q : Value → Shared → Prop}
    (F : Fr h₀ L s.heap mF) (X : (NT.hdA.heap_1 w.params).In h₀) (N : News h₀ L s.heap news) (hv : NumIn news v x) {b : Bool} (hb : x.isReal = b) (h : ∀ tk, Q (.bool b) { s with toks := tk }) :
    wpAny (model Challenge.rw_nt0211_01.row.prog w) A (PySem.call (.builtin "isinstance") [v, .ref 96]) Q E s := by
  subst hb
  revert X
  k_fill
  intro X
  cases hv <;> (k_steps; exact h _)
theorem laid_NTW7_1 : True := by
  k_with "NT call builtin:isinstance" => (k_here; (with_reducible show wpAny _ _ (PySem.call (Value.builtin "isinstance") [_, Value.ref 96]) _ _ _); k_dflt (refine' isi_num ?k1 ?k2 ?k3 ?k4 ?k5 ?_; (case k1 => k_asm); (case k2 => k_asm); (case k3 => k_asm); (case k4 => walk_at "NTn"); (case k5 => first | assumption | exact rfl); k_whole; intro tk9; (try dsimp only [Num.isReal])))
  trivial
set_option maxRecDepth 100000 in
set_option maxHeartbeats 8000000 in
theorem c_isinexact {w : World} {mean mg mb} (news : List (Addr × Obj)) (v : Value) (x : Num) (hv : NumIn news v x) :
    Does w mean mg mb 345 3 [v] news (fun _ r => r = .bool x.isReal) := by
  unfold Does
  k_fill
  intro dp un gd cn cs aF ccd cl outer A₀ base h₀ L mF s Q E B F X N T hK9 hD9 hU9 hret
  refine wpAny_call ?_
  k_dflt (refine' code_def (binds := [(Str.ofString "value", v)]) ?k1 ?k2 ?k3 ?k4 ?k5 ?kA ?kF ?kK ?k6 ?k7 ?k8 ?k9 ?kB ?_ ?c2 ?c3 ?c4 ?c5; (case kA => exact rfl); (case kF => exact rfl); (case kK => assumption); (case k1 => k_asm); (case k2 => k_asm); (case k3 => k_asm); (case k4 => k_asm); (case k5 => k_asm); (case k6 => k_is); (case k7 => k_is); (case k8 => ktr_room); (case k9 => exact BindsTo.of_eq rfl); (case c5 => decide); (case kB => exact locs rfl); (case c2 => exact rfl); (case c3 => exact rfl); (case c4 => exact rfl); k_whole; intro g' L' h' FG' F' N' B' X' T'; (try dsimp only); (try k_fold))

  k_steps
  exact ret_all hret (by assumption) (by assumption) (by ktd_sub) rfl
theorem laid_NTW7_2 : True := by
  k_with "NT call ref" => (k_here; (with_reducible show wpAny _ _ (PySem.call (Value.ref 345) _ _) _ _ _); k_dflt (refine' Does.use (c_isinexact _ _ _ ?ha) ?k1 ?k2 ?k3 ?k4 ?k5 ?kK ?kd ?ku ?_; (case k1 => k_asm); (case k2 => k_asm); (case k3 => k_asm); (case k4 => k_asm); (case k5 => k_asm); (case kK => first | exact rfl | assumption); (case kd => ktr_room); (case ku => ktr_units); (case ha => (walk_at "NTn")); intro r9 tl9 h9 tk9 F9 N9 ho9; (have e9 : _ = _ := ho9); clear ho9; subst e9; (try dsimp only); (try k_fold)))
  trivial
set_option maxRecDepth 100000 in
set_option maxHeartbeats 8000000 in
theorem c_isexact {w : World} {mean mg mb} (news : List (Addr × Obj)) (v : Value) (x : Num) (hv : NumIn news v x) :
    Does w mean mg mb 282 6 [v] news (fun _ r => r = .bool (!x.isReal)) := by
  unfold Does
  k_fill
  intro dp un gd cn cs aF ccd cl outer A₀ base h₀ L mF s Q E B F X N T hK9 hD9 hU9 hret
  refine wpAny_call ?_
  k_dflt (refine' code_def (binds := [(Str.ofString "value", v)]) ?k1 ?k2 ?k3 ?k4 ?k5 ?kA ?kF ?kK ?k6 ?k7 ?k8 ?k9 ?kB ?_ ?c2 ?c3 ?c4 ?c5; (case kA => exact rfl); (case kF => exact rfl); (case kK => assumption); (case k1 => k_asm); (case k2 => k_asm); (case k3 => k_asm); (case k4 => k_asm); (case k5 => k_asm); (case k6 => k_is); (case k7 => k_is); (case k8 => ktr_room); (case k9 => exact BindsTo.of_eq rfl); (case c5 => decide); (case kB => exact locs rfl); (case c2 => exact rfl); (case c3 => exact rfl); (case c4 => exact rfl); k_whole; intro g' L' h' FG' F' N' B' X' T'; (try dsimp only); (try k_fold))

  have hv0 := hv
  cases hv
  all_goals (
  k_steps
  exact ret_all hret (by assumption) (by assumption) (by ktd_sub) rfl)
theorem laid_NTW7_3 : True := by
  k_with "NT call ref" => (k_here; (with_reducible show wpAny _ _ (PySem.call (Value.ref 282) _ _) _ _ _); k_dflt (refine' Does.use (c_isexact _ _ _ ?ha) ?k1 ?k2 ?k3 ?k4 ?k5 ?kK ?kd ?ku ?_; (case k1 => k_asm); (case k2 => k_asm); (case k3 => k_asm); (case k4 => k_asm); (case k5 => k_asm); (case kK => first | exact rfl | assumption); (case kd => ktr_room); (case ku => ktr_units); (case ha => (walk_at "NTn")); intro r9 tl9 h9 tk9 F9 N9 ho9; (have e9 : _ = _ := ho9); clear ho9; subst e9; (try dsimp only); (try k_fold)))
  trivial
set_option maxRecDepth 100000 in
set_option maxHeartbeats 8000000 in
theorem c_topof {w : World} {mean mg mb} (news : List (Addr × Obj)) (v : Value) (x : Num) (hv : NumIn news v x) (hx : x.isReal = false) :
    Does w mean mg mb 289 3 [v] news (fun _ r => ∃ u, r = .int x.top u) := by
  unfold Does
  k_fill
  intro dp un gd cn cs aF ccd cl outer A₀ base h₀ L mF s Q E B F X N T hK9 hD9 hU9 hret
  refine wpAny_call ?_
  k_dflt (refine' code_def (binds := [(Str.ofString "number", v)]) ?k1 ?k2 ?k3 ?k4 ?k5 ?kA ?kF ?kK ?k6 ?k7 ?k8 ?k9 ?kB ?_ ?c2 ?c3 ?c4 ?c5; (case kA => exact rfl); (case kF => exact rfl); (case kK => assumption); (case k1 => k_asm); (case k2 => k_asm); (case k3 => k_asm); (case k4 => k_asm); (case k5 => k_asm); (case k6 => k_is); (case k7 => k_is); (case k8 => ktr_room); (case k9 => exact BindsTo.of_eq rfl); (case c5 => decide); (case kB => exact locs rfl); (case c2 => exact rfl); (case c3 => exact rfl); (case c4 => exact rfl); k_whole; intro g' L' h' FG' F' N' B' X' T'; (try dsimp only); (try k_fold))

  have hv0 := hv
  cases hv
  case real => exact Bool.noConfusion hx
  all_goals (
  k_steps
  exact ret_all hret (by assumption) (by assumption) (by ktd_sub) ⟨_, rfl⟩)
theorem laid_NTW7_4 : True := by
  k_with "NT call ref" => (k_here; (with_reducible show wpAny _ _ (PySem.call (Value.ref 289) _ _) _ _ _); k_dflt (refine' Does.use (c_topof _ _ _ ?ha ?hb) ?k1 ?k2 ?k3 ?k4 ?k5 ?kK ?kd ?ku ?_; (case k1 => k_asm); (case k2 => k_asm); (case k3 => k_asm); (case k4 => k_asm); (case k5 => k_asm); (case kK => first | exact rfl | assumption); (case kd => ktr_room); (case ku => ktr_units); (case ha => (walk_at "NTn")); (case hb => first | assumption | rfl); intro r9 tl9 h9 tk9 F9 N9 ho9; obtain ⟨u9, e9⟩ := ho9; subst e9; (try dsimp only); (try k_fold)))
  trivial
set_option maxRecDepth 100000 in
set_option maxHeartbeats 8000000 in
theorem c_bottomof {w : World} {mean mg mb} (news : List (Addr × Obj)) (v : Value) (x : Num) (hv : NumIn news v x) (hx : x.isReal = false) :
    Does w mean mg mb 296 3 [v] news (fun _ r => ∃ u, r = .int x.bot u) := by
  unfold Does
  k_fill
  intro dp un gd cn cs aF ccd cl outer A₀ base h₀ L mF s Q E B F X N T hK9 hD9 hU9 hret
  refine wpAny_call ?_
  k_dflt (refine' code_def (binds := [(Str.ofString "number", v)]) ?k1 ?k2 ?k3 ?k4 ?k5 ?kA ?kF ?kK ?k6 ?k7 ?k8 ?k9 ?kB ?_ ?c2 ?c3 ?c4 ?c5; (case kA => exact rfl); (case kF => exact rfl); (case kK => assumption); (case k1 => k_asm); (case k2 => k_asm); (case k3 => k_asm); (case k4 => k_asm); (case k5 => k_asm); (case k6 => k_is); (case k7 => k_is); (case k8 => ktr_room); (case k9 => exact BindsTo.of_eq rfl); (case c5 => decide); (case kB => exact locs rfl); (case c2 => exact rfl); (case c3 => exact rfl); (case c4 => exact rfl); k_whole; intro g' L' h' FG' F' N' B' X' T'; (try dsimp only); (try k_fold))

  have hv0 := hv
  cases hv
  case real => exact Bool.noConfusion hx
  all_goals (
  k_steps
  exact ret_all hret (by assumption) (by assumption) (by ktd_sub) ⟨_, rfl⟩)
theorem laid_NTW7_5 : True := by
  k_with "NT call ref" => (k_here; (with_reducible show wpAny _ _ (PySem.call (Value.ref 296) _ _) _ _ _); k_dflt (refine' Does.use (c_bottomof _ _ _ ?ha ?hb) ?k1 ?k2 ?k3 ?k4 ?k5 ?kK ?kd ?ku ?_; (case k1 => k_asm); (case k2 => k_asm); (case k3 => k_asm); (case k4 => k_asm); (case k5 => k_asm); (case kK => first | exact rfl | assumption); (case kd => ktr_room); (case ku => ktr_units); (case ha => (walk_at "NTn")); (case hb => first | assumption | rfl); intro r9 tl9 h9 tk9 F9 N9 ho9; obtain ⟨u9, e9⟩ := ho9; subst e9; (try dsimp only); (try k_fold)))
  trivial
end
section
theorem isReal_real {x : Num} (h : x.isReal = true) : ∃ m e, x = .real m e := by
  cases x with
  | real m e => exact ⟨m, e, rfl⟩
  | whole n => exact Bool.noConfusion h
  | ratio t b => exact Bool.noConfusion h
theorem ceq_eq (a b : Int) : b2i (decide (b < a)) - b2i (decide (a < b)) = (a - b).sign := by
  rcases Int.lt_trichotomy a b with h | h | h
  · rw [Int.sign_eq_neg_one_of_neg (by omega), decide_eq_false (by omega), decide_eq_true h]; rfl
  · subst h; simp
  · rw [Int.sign_eq_one_of_pos (by omega), decide_eq_true h, decide_eq_false (by omega)]; rfl
theorem Does.to {w : World} {mean mg mb} {f : Addr} {k : Nat} {vs : List Value} {news : List (Addr × Obj)} {P P' : List (Addr × Obj) → Value → Prop} (D : Does w mean mg mb f k vs news P) (h : ∀ tl r, P tl r → P' tl r) : Does w mean mg mb f k vs news P' :=
  fun dp un gd cn cs a ccd cl outer A₀ base h₀ L m s Q E B F X N T hk hd hu hret => D dp un gd cn cs a ccd cl outer A₀ base h₀ L m s Q E B F X N T hk hd hu fun r tl h' tk' F' N' p => hret r tl h' tk' F' N' (h tl r p)
theorem c_signof' {w : World} {mean mg mb} (news : List (Addr × Obj)) (v : Value) (x : Num) (hv : NumIn news v x) (hx : x.isReal = true) :
    Does w mean mg mb 177 6 [v] news (fun _ r => ∃ u, r = .int x.fT.sign u) := by
  obtain ⟨m, e, rfl⟩ := isReal_real hx
  rw [fT_sign]
  exact c_signof news v m e hv
theorem laid_NTW8_1 : True := by
  k_with "NT call ref" => (k_here; (with_reducible show wpAny _ _ (PySem.call (Value.ref 177) _ _) _ _ _); k_dflt (refine' Does.use (c_signof' _ _ _ ?ha ?hb) ?k1 ?k2 ?k3 ?k4 ?k5 ?kK ?kd ?ku ?_; (case k1 => k_asm); (case k2 => k_asm); (case k3 => k_asm); (case k4 => k_asm); (case k5 => k_asm); (case kK => first | exact rfl | assumption); (case kd => ktr_room); (case ku => ktr_units); (case ha => (walk_at "NTn")); (case hb => first | assumption | rfl); intro r9 tl9 h9 tk9 F9 N9 ho9; obtain ⟨u9, e9⟩ := ho9; subst e9; (try dsimp only); (try k_fold)))
  trivial
theorem c_cmpreals' {w : World} {mean mg mb} (news : List (Addr × Obj)) (v v' : Value) (p : Int) (x y : Num) (hv : NumIn news v x) (hv' : NumIn news v' y) (hx : x.isReal = true) (hy : y.isReal = true) (hp2 : p ≤ 8) (ox : NumOk p x) (oy : NumOk p y) :
    Does w mean mg mb 212 16 [v, v'] news (fun _ r => ∃ u, r = .int (less x y) u) := by
  obtain ⟨m, e, rfl⟩ := isReal_real hx
  obtain ⟨m', e', rfl⟩ := isReal_real hy
  obtain ⟨a1, a2, a3, a4⟩ := real_bnd hp2 ox
  obtain ⟨b1, b2, b3, b4⟩ := real_bnd hp2 oy
  rw [less_real (by omega) (by omega)]
  exact c_cmpreals news v v' m e m' e' hv hv' (by omega) (by omega) (by omega) (by omega) (by omega) (by omega) (by omega) (by omega)
theorem laid_NTW8_2 : True := by
  k_with "NT call ref" => (k_here; (with_reducible show wpAny _ _ (PySem.call (Value.ref 212) _ _) _ _ _); k_dflt (refine' Does.use (c_cmpreals' _ _ _ _ _ _ ?ha ?hb ?hc ?hd ?he ?hf ?hg) ?k1 ?k2 ?k3 ?k4 ?k5 ?kK ?kd ?ku ?_; (case k1 => k_asm); (case k2 => k_asm); (case k3 => k_asm); (case k4 => k_asm); (case k5 => k_asm); (case kK => first | exact rfl | assumption); (case kd => ktr_room); (case ku => ktr_units); (case ha => (walk_at "NTn")); (case hb => (walk_at "NTn")); (case hc => first | assumption | rfl); (case hd => first | assumption | rfl); (case he => (walk_at "NTa")); (case hf => (walk_at "NTo")); (case hg => (walk_at "NTo")); intro r9 tl9 h9 tk9 F9 N9 ho9; obtain ⟨u9, e9⟩ := ho9; subst e9; (try dsimp only); (try k_fold)))
  trivial
theorem c_same' {w : World} {mean mg mb} (news : List (Addr × Obj)) (v v' : Value) (p : Int) (x y : Num) (hv : NumIn news v x) (hv' : NumIn news v' y) (hx : x.isReal = true) (hy : y.isReal = true) (ox : NumOk p x) (oy : NumOk p y) :
    Does w mean mg mb 198 3 [v, v'] news (fun _ r => r = .bool (decide (less x y = 0))) := by
  obtain ⟨m, e, rfl⟩ := isReal_real hx
  obtain ⟨m', e', rfl⟩ := isReal_real hy
  rw [← decide_eq_decide.mpr (same_reals ox oy)]
  exact c_same news v v' m e m' e' hv hv'
theorem laid_NTW8_3 : True := by
  k_with "NT call ref" => (k_here; (with_reducible show wpAny _ _ (PySem.call (Value.ref 198) _ _) _ _ _); k_dflt (refine' Does.use (c_same' _ _ _ _ _ _ ?ha ?hb ?hc ?hd ?hf ?hg) ?k1 ?k2 ?k3 ?k4 ?k5 ?kK ?kd ?ku ?_; (case k1 => k_asm); (case k2 => k_asm); (case k3 => k_asm); (case k4 => k_asm); (case k5 => k_asm); (case kK => first | exact rfl | assumption); (case kd => ktr_room); (case ku => ktr_units); (case ha => (walk_at "NTn")); (case hb => (walk_at "NTn")); (case hc => first | assumption | rfl); (case hd => first | assumption | rfl); (case hf => (walk_at "NTo")); (case hg => (walk_at "NTo")); intro r9 tl9 h9 tk9 F9 N9 ho9; (have e9 : _ = _ := ho9); clear ho9; subst e9; (try dsimp only); (try k_fold)))
  trivial
theorem c_exparts' {w : World} {mean mg mb} (news : List (Addr × Obj)) (v : Value) (p : Int) (x : Num) (hv : NumIn news v x) (hx : x.isReal = true) (hp2 : p ≤ 8) (ox : NumOk p x) :
    Does w mean mg mb 163 3 [v] news (fun tl r => ∃ a p q u1 u2, r = .ref a ∧ (a, tupOf [.int p u1, .int q u2]) ∈ tl ∧ p = x.fT ∧ q = x.fB) := by
  obtain ⟨m, e, rfl⟩ := isReal_real hx
  obtain ⟨a1, a2, a3, a4⟩ := real_bnd hp2 ox
  exact c_exparts news v m e hv (by omega) (by omega) (by omega) (by omega)
theorem laid_NTW8_4 : True := by
  k_with "NT call ref" => (k_here; (with_reducible show wpAny _ _ (PySem.call (Value.ref 163) _ _) _ _ _); k_dflt (refine' Does.use (c_exparts' _ _ _ _ ?ha ?hb ?hc ?hd) ?k1 ?k2 ?k3 ?k4 ?k5 ?kK ?kd ?ku ?_; (case k1 => k_asm); (case k2 => k_asm); (case k3 => k_asm); (case k4 => k_asm); (case k5 => k_asm); (case kK => first | exact rfl | assumption); (case kd => ktr_room); (case ku => ktr_units); (case ha => (walk_at "NTn")); (case hb => first | assumption | rfl); (case hc => (walk_at "NTa")); (case hd => (walk_at "NTo")); intro r9 tl9 h9 tk9 F9 N9 ho9; obtain ⟨a9, p9, q9, u9, v9, e9, hm9, hp9, hq9⟩ := ho9; subst e9; subst hp9; subst hq9; (try dsimp only); (try k_fold)))
  trivial
set_option maxRecDepth 100000 in
set_option maxHeartbeats 8000000 in
theorem c_sign {w : World} {mean mg mb} (news : List (Addr × Obj)) (v : Value) (x : Num) (hv : NumIn news v x) :
    Does w mean mg mb 352 12 [v] news (fun _ r => ∃ u, r = .int x.fT.sign u) := by
  unfold Does
  k_fill
  intro dp un gd cn cs aF ccd cl outer A₀ base h₀ L mF s Q E B F X N T hK9 hD9 hU9 hret
  refine wpAny_call ?_
  k_dflt (refine' code_def (binds := [(Str.ofString "number", v)]) ?k1 ?k2 ?k3 ?k4 ?k5 ?kA ?kF ?kK ?k6 ?k7 ?k8 ?k9 ?kB ?_ ?c2 ?c3 ?c4 ?c5; (case kA => exact rfl); (case kF => exact rfl); (case kK => assumption); (case k1 => k_asm); (case k2 => k_asm); (case k3 => k_asm); (case k4 => k_asm); (case k5 => k_asm); (case k6 => k_is); (case k7 => k_is); (case k8 => ktr_room); (case k9 => exact BindsTo.of_eq rfl); (case c5 => decide); (case kB => exact locs rfl); (case c2 => exact rfl); (case c3 => exact rfl); (case c4 => exact rfl); k_whole; intro g' L' h' FG' F' N' B' X' T'; (try dsimp only); (try k_fold))

  k_steps
  · exact ret_all hret (by assumption) (by assumption) (by ktd_sub) ⟨_, rfl⟩
  · exact ret_all hret (by assumption) (by assumption) (by ktd_sub) ⟨_, by rw [exact_fT (by assumption), sow_eq]⟩
theorem laid_NTW8_5 : True := by
  k_with "NT call ref" => (k_here; (with_reducible show wpAny _ _ (PySem.call (Value.ref 352) _ _) _ _ _); k_dflt (refine' Does.use (c_sign _ _ _ ?ha) ?k1 ?k2 ?k3 ?k4 ?k5 ?kK ?kd ?ku ?_; (case k1 => k_asm); (case k2 => k_asm); (case k3 => k_asm); (case k4 => k_asm); (case k5 => k_asm); (case kK => first | exact rfl | assumption); (case kd => ktr_room); (case ku => ktr_units); (case ha => (walk_at "NTn")); intro r9 tl9 h9 tk9 F9 N9 ho9; obtain ⟨u9, e9⟩ := ho9; subst e9; (try dsimp only); (try k_fold)))
  trivial
set_option maxRecDepth 100000 in
set_option maxHeartbeats 8000000 in
theorem c_cmpexact {w : World} {mean mg mb} (news : List (Addr × Obj)) (v v' : Value) (x y : Num) (hv : NumIn news v x) (hv' : NumIn news v' y) (hx : x.isReal = false) (hy : y.isReal = false) (h1 : -16777216 ≤ x.top) (h2 : x.top ≤ 16777216) (h3 : -16777216 ≤ y.top) (h4 : y.top ≤ 16777216) :
    Does w mean mg mb 331 6 [v, v'] news (fun _ r => ∃ u, r = .int (x.top * y.bot - y.top * x.bot).sign u) := by
  unfold Does
  k_fill
  intro dp un gd cn cs aF ccd cl outer A₀ base h₀ L mF s Q E B F X N T hK9 hD9 hU9 hret
  refine wpAny_call ?_
  k_dflt (refine' code_def (binds := [(Str.ofString "one", v), (Str.ofString "other", v')]) ?k1 ?k2 ?k3 ?k4 ?k5 ?kA ?kF ?kK ?k6 ?k7 ?k8 ?k9 ?kB ?_ ?c2 ?c3 ?c4 ?c5; (case kA => exact rfl); (case kF => exact rfl); (case kK => assumption); (case k1 => k_asm); (case k2 => k_asm); (case k3 => k_asm); (case k4 => k_asm); (case k5 => k_asm); (case k6 => k_is); (case k7 => k_is); (case k8 => ktr_room); (case k9 => exact BindsTo.of_eq rfl); (case c5 => decide); (case kB => exact locs rfl); (case c2 => exact rfl); (case c3 => exact rfl); (case c4 => exact rfl); k_whole; intro g' L' h' FG' F' N' B' X' T'; (try dsimp only); (try k_fold))

  k_steps
  exact ret_all hret (by assumption) (by assumption) (by ktd_sub) ⟨_, by rw [ceq_eq]⟩
theorem laid_NTW8_6 : True := by
  k_with "NT call ref" => (k_here; (with_reducible show wpAny _ _ (PySem.call (Value.ref 331) _ _) _ _ _); k_dflt (refine' Does.use (c_cmpexact _ _ _ _ _ ?ha ?hb ?hc ?hd ?he ?hf ?hg ?hh) ?k1 ?k2 ?k3 ?k4 ?k5 ?kK ?kd ?ku ?_; (case k1 => k_asm); (case k2 => k_asm); (case k3 => k_asm); (case k4 => k_asm); (case k5 => k_asm); (case kK => first | exact rfl | assumption); (case kd => ktr_room); (case ku => ktr_units); (case ha => (walk_at "NTn")); (case hb => (walk_at "NTn")); (case hc => first | assumption | rfl | exact ex_isReal _); (case hd => first | assumption | rfl | exact ex_isReal _); (case he => (walk_at "NTa")); (case hf => (walk_at "NTa")); (case hg => (walk_at "NTa")); (case hh => (walk_at "NTa")); intro r9 tl9 h9 tk9 F9 N9 ho9; obtain ⟨u9, e9⟩ := ho9; subst e9; (try dsimp only); (try k_fold)))
  trivial
set_option maxRecDepth 100000 in
set_option maxHeartbeats 8000000 in
theorem c_eqexact {w : World} {mean mg mb} (news : List (Addr × Obj)) (v v' : Value) (p : Int) (x y : Num) (hv : NumIn news v x) (hv' : NumIn news v' y) (hx : x.isReal = false) (hy : y.isReal = false) (ox : NumOk p x) (oy : NumOk p y) :
    Does w mean mg mb 338 6 [v, v'] news (fun _ r => r = .bool (decide (less x y = 0))) := by
  have hd9 : decide (x.top = y.top ∧ x.bot = y.bot) = decide (less x y = 0) := decide_eq_decide.mpr (same_exacts ox oy hx hy)
  rw [← hd9]
  unfold Does
  k_fill
  intro dp un gd cn cs aF ccd cl outer A₀ base h₀ L mF s Q E B F X N T hK9 hD9 hU9 hret
  refine wpAny_call ?_
  k_dflt (refine' code_def (binds := [(Str.ofString "one", v), (Str.ofString "other", v')]) ?k1 ?k2 ?k3 ?k4 ?k5 ?kA ?kF ?kK ?k6 ?k7 ?k8 ?k9 ?kB ?_ ?c2 ?c3 ?c4 ?c5; (case kA => exact rfl); (case kF => exact rfl); (case kK => assumption); (case k1 => k_asm); (case k2 => k_asm); (case k3 => k_asm); (case k4 => k_asm); (case k5 => k_asm); (case k6 => k_is); (case k7 => k_is); (case k8 => ktr_room); (case k9 => exact BindsTo.of_eq rfl); (case c5 => decide); (case kB => exact locs rfl); (case c2 => exact rfl); (case c3 => exact rfl); (case c4 => exact rfl); k_whole; intro g' L' h' FG' F' N' B' X' T'; (try dsimp only); (try k_fold))

  k_steps
  · refine ret_all hret (by assumption) (by assumption) (by ktd_sub) ?_
    have h : x.top = y.top := by assumption
    by_cases h' : x.bot = y.bot <;> simp [h, h']
  · refine ret_all hret (by assumption) (by assumption) (by ktd_sub) ?_
    have h : x.top ≠ y.top := by assumption
    simp [h]
theorem laid_NTW8_7 : True := by
  k_with "NT call ref" => (k_here; (with_reducible show wpAny _ _ (PySem.call (Value.ref 338) _ _) _ _ _); k_dflt (refine' Does.use (c_eqexact _ _ _ _ _ _ ?ha ?hb ?hc ?hd ?hf ?hg) ?k1 ?k2 ?k3 ?k4 ?k5 ?kK ?kd ?ku ?_; (case k1 => k_asm); (case k2 => k_asm); (case k3 => k_asm); (case k4 => k_asm); (case k5 => k_asm); (case kK => first | exact rfl | assumption); (case kd => ktr_room); (case ku => ktr_units); (case ha => (walk_at "NTn")); (case hb => (walk_at "NTn")); (case hc => first | assumption | rfl); (case hd => first | assumption | rfl); (case hf => (walk_at "NTo")); (case hg => (walk_at "NTo")); intro r9 tl9 h9 tk9 F9 N9 ho9; (have e9 : _ = _ := ho9); clear ho9; subst e9; (try dsimp only); (try k_fold)))
  trivial
end
section
theorem gcd0 (a b : Int) : 0 ≤ (if a < 0 then -a else a) ∧ 0 ≤ (if b < 0 then -b else b) ∧ Int.gcd (if a < 0 then -a else a) (if b < 0 then -b else b) = Int.gcd a b := by
  refine ⟨by split <;> omega, by split <;> omega, ?_⟩
  rw [ite_natAbs, ite_natAbs]; simp [Int.gcd]
set_option maxRecDepth 100000 in
set_option maxHeartbeats 8000000 in
theorem c_gcdof {w : World} {mean mg mb} (news : List (Addr × Obj)) (a b : Int) (t1 t2 : Tok) :
    Does w mean mg mb 303 3 [.int a t1, .int b t2] news (fun _ r => ∃ u, r = .int (Int.gcd a b : Int) u) := by
  unfold Does
  k_fill
  intro dp un gd cn cs aF ccd cl outer A₀ base h₀ L mF s Q E B F X N T hK9 hD9 hU9 hret
  refine wpAny_call ?_
  k_dflt (refine' code_def (binds := [(Str.ofString "one", .int a t1), (Str.ofString "other", .int b t2)]) ?k1 ?k2 ?k3 ?k4 ?k5 ?kA ?kF ?kK ?k6 ?k7 ?k8 ?k9 ?kB ?_ ?c2 ?c3 ?c4 ?c5; (case kA => exact rfl); (case kF => exact rfl); (case kK => assumption); (case k1 => k_asm); (case k2 => k_asm); (case k3 => k_asm); (case k4 => k_asm); (case k5 => k_asm); (case k6 => k_is); (case k7 => k_is); (case k8 => ktr_room); (case k9 => exact BindsTo.of_eq rfl); (case c5 => decide); (case kB => exact locs rfl); (case c2 => exact rfl); (case c3 => exact rfl); (case c4 => exact rfl); k_whole; intro g' L' h' FG' F' N' B' X' T'; (try dsimp only); (try k_fold))

  k_with "exec While Compare cons nil" => k_while (fun _ one other => 0 ≤ one ∧ 0 ≤ other ∧ Int.gcd one other = Int.gcd a b) (fun _ _ other => other.toNat) "one" "other"
  k_with "state" => first | exact gcd0 a b | exact low1 (by assumption) (by assumption) (by assumption) (by assumption)
  k_with "measure" => exact low2 (by assumption) (by assumption) (by assumption) (by assumption)
  k_steps
  have e1 := low3 (by assumption : Int.gcd _ _ = Int.gcd a b) (by assumption) (by assumption)
  subst e1
  k_with_none
  k_with "NT subscriptTail Name Constant ref int" => (k_here; (with_reducible show wpAny _ _ (subscriptTail _ _ (Value.ref _) (Value.int _ _)) _ _ _); (with_unfolding_all refine' item_litK ?k1 ?k2 ?k3 ?k4 ?_ ?k6; (case k1 => exact News.isList (by k_asm) (by k_mem)); (case k2 => decide); (case k3 => decide); (case k4 => rfl); (case k6 => with_unfolding_all rfl); k_whole))
  k_with "NT call ref" => (k_here; (refine wpAny_call ?_); k_dflt (refine' code_def ?k1 ?k2 ?k3 ?k4 ?k5 ?kA ?kF ?kK ?k6 ?k7 ?k8 ?k9 ?kB ?_ ?c2 ?c3 ?c4 ?c5; (case kA => exact rfl); (case kF => exact rfl); (case kK => first | exact rfl | assumption); (case k1 => k_asm); (case k2 => k_asm); (case k3 => k_asm); (case k4 => k_asm); (case k5 => k_asm); (case k6 => k_is); (case k7 => k_is); (case k8 => ktr_room); (case k9 => exact BindsTo.of_eq rfl); (case c5 => decide); (case kB => exact locs rfl); (case c2 => exact rfl); (case c3 => exact rfl); (case c4 => exact rfl); k_whole; intro g' L' h' FG' F' N' B' X' T'; (try dsimp only); (try k_fold)))
  k_with "NT binaryOp Add ref ref" => (k_here; (with_reducible show wpAny _ _ (binaryOp _ (Value.ref _) (Value.ref _)) _ _ _); k_dflt (refine' kmk_add_lit ?F ?N ?a ?b ?e ?_ ?z; (case F => k_asm); (case N => k_asm); (case a => kmk_list); (case b => kmk_list); (case e => kl_lit); (case z => kl_room)); intro D' h' F' N' l1; (try dsimp only))
  k_with "NT compareOp NotEq ref ref" => (k_here; (with_reducible show wpAny _ _ (compareOp CmpOp.NotEq (Value.ref _) (Value.ref _)) _ _ _); k_dflt ((refine ne_dataH (by ke_read) (by ke_read) (by ke_shaped) (by ke_shaped) (by ktr_units) ?_); ke_norm))
  k_with "NT compareOp Eq ref ref" => (k_here; (with_reducible show wpAny _ _ (compareOp CmpOp.Eq (Value.ref _) (Value.ref _)) _ _ _); k_dflt ((refine eq_dataH (by ke_read) (by ke_read) (by ke_shaped) (by ke_shaped) (by ktr_units) ?_); ke_norm))
  k_with "NT exec For Name Name cons nil" => (k_here; (rename Fr _ _ _ _ => lF'); (with_unfolding_all refine' For_invVF lF' ?k1 ?k2 ?_; (case k1 => exact rfl); (case k2 => exact rfl); k_whole))
  k_with "NT exec For Name List cons nil" => (k_here; (rename Fr _ _ _ _ => lF'); (with_unfolding_all refine' For_invVF lF' ?k1 ?k2 ?_; (case k1 => exact rfl); (case k2 => exact rfl); k_whole))
  k_with "NT exec For Name Subscript cons nil" => (k_here; (rename Fr _ _ _ _ => lF'); (with_unfolding_all refine' For_invVF lF' ?k1 ?k2 ?_; (case k1 => exact rfl); (case k2 => exact rfl); k_whole))
  k_with "NT pyIter ref" => (k_here; (with_unfolding_all refine' iter_listUnr ?k0 ?k1 ?k2 ?k3 ?k4 ?k5 ?_; (case k0 => exact rfl); (case k1 => k_asm); (case k2 => k_asm); (case k3 => k_mem); (case k4 => exact rfl); (case k5 => exact rfl); k_whole); intro i9 l9)
  k_with "NT UnrEnd" => (refine UnrEnd.intro (by assumption) (by assumption) _ ?ks (offOf (by assumption)) ⟨?km, ?_⟩; (case ks => ktd_sub); (case km => k_mem))
  k_with "NT ite" => (k_openite; k_dflt (first | (refine ite_pos ?kc ?_; (case kc => first | omega | (simp only [decide_eq_true_eq, decide_eq_false_iff_not, beq_iff_eq, bne_iff_ne, ne_eq, Bool.not_eq_true', Bool.not_eq_false', Bool.and_eq_true, Bool.and_eq_false_iff, Bool.or_eq_true, Bool.not_not]; done) | ((simp only [decide_eq_true_eq, decide_eq_false_iff_not, beq_iff_eq, bne_iff_ne, ne_eq, Bool.not_eq_true', Bool.not_eq_false', Bool.and_eq_true, Bool.and_eq_false_iff, Bool.or_eq_true, Bool.not_not]); omega) | (simp; done))) | (refine ite_neg ?kc ?_; (case kc => first | omega | (simp only [decide_eq_true_eq, decide_eq_false_iff_not, beq_iff_eq, bne_iff_ne, ne_eq, Bool.not_eq_true', Bool.not_eq_false', Bool.and_eq_true, Bool.and_eq_false_iff, Bool.or_eq_true, Bool.not_not]; done) | ((simp only [decide_eq_true_eq, decide_eq_false_iff_not, beq_iff_eq, bne_iff_ne, ne_eq, Bool.not_eq_true', Bool.not_eq_false', Bool.and_eq_true, Bool.and_eq_false_iff, Bool.or_eq_true, Bool.not_not]); omega) | (simp; done)))))
  k_with "NT NTn" => first | assumption | exact NumIn.whole | exact NumIn.mono (by assumption) (by ktd_sub) | exact NumIn.real (by k_mem) (by k_mem) | exact NumIn.ratio (by k_mem) (by k_mem)
  k_with "NT NTt" => first | assumption | exact ⟨_, _, _, _, by k_mem, by k_mem⟩
  k_with "NT NTm" => first | assumption | ktr_member | k_mem
  k_with "NT NTo" => assumption
  k_with "NT NTa" => first | assumption | omega | decide
  k_with "NT binaryOp LShift int int" => (refine lshift_int_small ?kb1 ?kb2 ?kb3 ?_; (case kb1 => walk_at "NTa"); (case kb2 => walk_at "NTa"); (case kb3 => walk_at "NTa"))
  k_with "NT binaryOp Pow int int" => (refine pow_int_small ?kb1 ?kb2 ?kb3 ?_; (case kb1 => walk_at "NTa"); (case kb2 => walk_at "NTa"); (case kb3 => walk_at "NTa"))
  k_with "NT binaryOp RShift int int" => (refine rshift_int ?kb1 ?_; (case kb1 => walk_at "NTa"))
  k_with "NT binaryOp FloorDiv int int" => (refine floordiv_int ?kb1 ?_ (Or.inl (PyProof.noPylong_small ?kb2)); (case kb1 => walk_at "NTa"); (case kb2 => walk_at "NTa"))
  k_with "NT binaryOp Mult int int" => (refine mul_int ?_ ?kb1; rotate_left; (case kb1 => first | exact mulSignOk _ _ | exact IntMulOk.of_left (intBits_le_64 (by walk_at "NTa") (by walk_at "NTa")) | exact IntMulOk.of_right (intBits_le_64 (by walk_at "NTa") (by walk_at "NTa"))))
  k_with "NT call ref" => (k_here; (with_reducible show wpAny _ _ (PySem.call (Value.ref 695) _ _) _ _ _); k_dflt (refine' Does.use (c_low _ _ _ _ _ ?ha ?hb) ?k1 ?k2 ?k3 ?k4 ?k5 ?kK ?kd ?ku ?_; (case k1 => k_asm); (case k2 => k_asm); (case k3 => k_asm); (case k4 => k_asm); (case k5 => k_asm); (case kK => first | exact rfl | assumption); (case kd => ktr_room); (case ku => ktr_units); (case ha => omega); (case hb => omega); intro r9 tl9 h9 tk9 F9 N9 ho9; obtain ⟨a9, p9, q9, u9, v9, e9, hm9, hp9, hq9⟩ := ho9; subst e9; subst hp9; subst hq9; (try dsimp only); (try k_fold)))
  k_with "NT call ref" => (k_here; (with_reducible show wpAny _ _ (PySem.call (Value.ref 96) _ _) _ _ _); k_dflt (refine' Does.use (c_Real _ _ _ _ _) ?k1 ?k2 ?k3 ?k4 ?k5 ?kK ?kd ?ku ?_; (case k1 => k_asm); (case k2 => k_asm); (case k3 => k_asm); (case k4 => k_asm); (case k5 => k_asm); (case kK => first | exact rfl | assumption); (case kd => ktr_room); (case ku => ktr_units);  intro r9 tl9 h9 tk9 F9 N9 ho9; (try dsimp only); (try k_fold)))
  k_with "NT call ref" => (k_here; (with_reducible show wpAny _ _ (PySem.call (Value.ref 264) _ _) _ _ _); k_dflt (refine' Does.use (c_Ratio _ _ _ _ _) ?k1 ?k2 ?k3 ?k4 ?k5 ?kK ?kd ?ku ?_; (case k1 => k_asm); (case k2 => k_asm); (case k3 => k_asm); (case k4 => k_asm); (case k5 => k_asm); (case kK => first | exact rfl | assumption); (case kd => ktr_room); (case ku => ktr_units);  intro r9 tl9 h9 tk9 F9 N9 ho9; (try dsimp only); (try k_fold)))
  k_with "NT call ref" => (k_here; (with_reducible show wpAny _ _ (PySem.call (Value.ref 107) _ _) _ _ _); k_dflt (refine' Does.use (c_size _ _ _) ?k1 ?k2 ?k3 ?k4 ?k5 ?kK ?kd ?ku ?_; (case k1 => k_asm); (case k2 => k_asm); (case k3 => k_asm); (case k4 => k_asm); (case k5 => k_asm); (case kK => first | exact rfl | assumption); (case kd => ktr_room); (case ku => ktr_units);  intro r9 tl9 h9 tk9 F9 N9 ho9; obtain ⟨u9, e9⟩ := ho9; subst e9; (try dsimp only); (try k_fold)))
  k_with "NT call ref" => (k_here; (with_reducible show wpAny _ _ (PySem.call (Value.ref 114) _ _) _ _ _); k_dflt (refine' Does.use (c_sow _ _ _) ?k1 ?k2 ?k3 ?k4 ?k5 ?kK ?kd ?ku ?_; (case k1 => k_asm); (case k2 => k_asm); (case k3 => k_asm); (case k4 => k_asm); (case k5 => k_asm); (case kK => first | exact rfl | assumption); (case kd => ktr_room); (case ku => ktr_units);  intro r9 tl9 h9 tk9 F9 N9 ho9; obtain ⟨u9, e9⟩ := ho9; subst e9; (try dsimp only); (try k_fold)))
  k_with "NT call ref" => (k_here; (with_reducible show wpAny _ _ (PySem.call (Value.ref 121) _ _) _ _ _); k_dflt (refine' Does.use (c_zeros _ _ _ _ _ ?ha) ?k1 ?k2 ?k3 ?k4 ?k5 ?kK ?kd ?ku ?_; (case k1 => k_asm); (case k2 => k_asm); (case k3 => k_asm); (case k4 => k_asm); (case k5 => k_asm); (case kK => first | exact rfl | assumption); (case kd => ktr_room); (case ku => ktr_units); (case ha => assumption); intro r9 tl9 h9 tk9 F9 N9 ho9; obtain ⟨u9, e9⟩ := ho9; subst e9; (try dsimp only); (try k_fold)))
  k_with "NT call ref" => (k_here; (with_reducible show wpAny _ _ (PySem.call (Value.ref 128) _ _) _ _ _); k_dflt (refine' Does.use (c_lean _ _ _ _ _ ?ha ?ha2 ?hb ?hc) ?k1 ?k2 ?k3 ?k4 ?k5 ?kK ?kd ?ku ?_; (case k1 => k_asm); (case k2 => k_asm); (case k3 => k_asm); (case k4 => k_asm); (case k5 => k_asm); (case kK => first | exact rfl | assumption); (case kd => ktr_room); (case ku => ktr_units); (case ha => first | (walk_at "NTa") | exact (signMul (by omega) (by omega)).1); (case ha2 => first | (walk_at "NTa") | exact (signMul (by omega) (by omega)).2); (case hb => (walk_at "NTa")); (case hc => (walk_at "NTa")); intro r9 tl9 h9 tk9 F9 N9 ho9; obtain ⟨m9, e9, hm9, hn9⟩ := ho9; (try dsimp only); (try k_fold)))
  k_with "NT call ref" => (k_here; (with_reducible show wpAny _ _ (PySem.call (Value.ref 135) _ _) _ _ _); k_dflt (refine' Does.use (c_nshift _ _ _ _ _ ?ha ?hb ?hc) ?k1 ?k2 ?k3 ?k4 ?k5 ?kK ?kd ?ku ?_; (case k1 => k_asm); (case k2 => k_asm); (case k3 => k_asm); (case k4 => k_asm); (case k5 => k_asm); (case kK => first | exact rfl | assumption); (case kd => ktr_room); (case ku => ktr_units); (case ha => (walk_at "NTa")); (case hb => (walk_at "NTa")); (case hc => (walk_at "NTa")); intro r9 tl9 h9 tk9 F9 N9 ho9; obtain ⟨R9, u9, e9, hR9, hlo9, hhi9⟩ := ho9; subst e9; (try dsimp only); (try k_fold)))
  k_with "NT call ref" => (k_here; (with_reducible show wpAny _ _ (PySem.call (Value.ref 149) _ _) _ _ _); k_dflt (refine' Does.use (c_sticky _ _ _ _ ?ha ?hb) ?k1 ?k2 ?k3 ?k4 ?k5 ?kK ?kd ?ku ?_; (case k1 => k_asm); (case k2 => k_asm); (case k3 => k_asm); (case k4 => k_asm); (case k5 => k_asm); (case kK => first | exact rfl | assumption); (case kd => ktr_room); (case ku => ktr_units); (case ha => (walk_at "NTa")); (case hb => (walk_at "NTa")); intro r9 tl9 h9 tk9 F9 N9 ho9; obtain ⟨u9, e9⟩ := ho9; subst e9; (try dsimp only); (try k_fold)))
  k_with "NT call ref" => (k_here; (with_reducible show wpAny _ _ (PySem.call (Value.ref 142) _ _) _ _ _); k_dflt (refine' Does.use (c_sround _ _ _ _ _ _ _ ?ha ?hb ?hc ?hd ?he ?hf) ?k1 ?k2 ?k3 ?k4 ?k5 ?kK ?kd ?ku ?_; (case k1 => k_asm); (case k2 => k_asm); (case k3 => k_asm); (case k4 => k_asm); (case k5 => k_asm); (case kK => first | exact rfl | assumption); (case kd => ktr_room); (case ku => ktr_units); (case ha => (walk_at "NTa")); (case hb => (walk_at "NTa")); (case hc => (walk_at "NTa")); (case hd => (walk_at "NTa")); (case he => (walk_at "NTa")); (case hf => (walk_at "NTa")); intro r9 tl9 h9 tk9 F9 N9 ho9; obtain ⟨R9, m9, e9, hm9, hR9, hn9⟩ := ho9; (try dsimp only); (try k_fold)))
  k_with "NT call ref" => (k_here; (with_reducible show wpAny _ _ (PySem.call (Value.ref 156) _ _) _ _ _); k_dflt (refine' Does.use (c_rounded _ _ _ _ _ _ _ ?ha ?hb ?hc ?hd ?he ?hf) ?k1 ?k2 ?k3 ?k4 ?k5 ?kK ?kd ?ku ?_; (case k1 => k_asm); (case k2 => k_asm); (case k3 => k_asm); (case k4 => k_asm); (case k5 => k_asm); (case kK => first | exact rfl | assumption); (case kd => ktr_room); (case ku => ktr_units); (case ha => (walk_at "NTa")); (case hb => (walk_at "NTa")); (case hc => (walk_at "NTa")); (case hd => (walk_at "NTa")); (case he => (walk_at "NTa")); (case hf => (walk_at "NTa")); intro r9 tl9 h9 tk9 F9 N9 ho9; obtain ⟨m9, e9, hm9, hs9⟩ := ho9; (try dsimp only); (try k_fold)))
  k_with "NT call ref" => (k_here; (with_reducible show wpAny _ _ (PySem.call (Value.ref 163) _ _) _ _ _); k_dflt (refine' Does.use (c_exparts _ _ _ _ ?ha ?hb ?hc ?hd ?he) ?k1 ?k2 ?k3 ?k4 ?k5 ?kK ?kd ?ku ?_; (case k1 => k_asm); (case k2 => k_asm); (case k3 => k_asm); (case k4 => k_asm); (case k5 => k_asm); (case kK => first | exact rfl | assumption); (case kd => ktr_room); (case ku => ktr_units); (case ha => (walk_at "NTn")); (case hb => (walk_at "NTa")); (case hc => (walk_at "NTa")); (case hd => (walk_at "NTa")); (case he => (walk_at "NTa")); intro r9 tl9 h9 tk9 F9 N9 ho9; obtain ⟨a9, p9, q9, u9, v9, e9, hm9, hp9, hq9⟩ := ho9; subst e9; subst hp9; subst hq9; (try dsimp only); (try k_fold)))
  k_with "NT call ref" => (k_here; (with_reducible show wpAny _ _ (PySem.call (Value.ref 170) _ _) _ _ _); k_dflt (refine' Does.use (c_place _ _ _ _ ?ha) ?k1 ?k2 ?k3 ?k4 ?k5 ?kK ?kd ?ku ?_; (case k1 => k_asm); (case k2 => k_asm); (case k3 => k_asm); (case k4 => k_asm); (case k5 => k_asm); (case kK => first | exact rfl | assumption); (case kd => ktr_room); (case ku => ktr_units); (case ha => (walk_at "NTn")); intro r9 tl9 h9 tk9 F9 N9 ho9; obtain ⟨u9, e9⟩ := ho9; subst e9; (try dsimp only); (try k_fold)))
  k_with "NT call ref" => (k_here; (with_reducible show wpAny _ _ (PySem.call (Value.ref 177) _ _) _ _ _); k_dflt (refine' Does.use (c_signof _ _ _ _ ?ha) ?k1 ?k2 ?k3 ?k4 ?k5 ?kK ?kd ?ku ?_; (case k1 => k_asm); (case k2 => k_asm); (case k3 => k_asm); (case k4 => k_asm); (case k5 => k_asm); (case kK => first | exact rfl | assumption); (case kd => ktr_room); (case ku => ktr_units); (case ha => (walk_at "NTn")); intro r9 tl9 h9 tk9 F9 N9 ho9; obtain ⟨u9, e9⟩ := ho9; subst e9; (try dsimp only); (try k_fold)))
  k_with "NT call ref" => (k_here; (with_reducible show wpAny _ _ (PySem.call (Value.ref 184) _ _) _ _ _); k_dflt (refine' Does.use (c_negative _ _ _ _ ?ha) ?k1 ?k2 ?k3 ?k4 ?k5 ?kK ?kd ?ku ?_; (case k1 => k_asm); (case k2 => k_asm); (case k3 => k_asm); (case k4 => k_asm); (case k5 => k_asm); (case kK => first | exact rfl | assumption); (case kd => ktr_room); (case ku => ktr_units); (case ha => (walk_at "NTn")); intro r9 tl9 h9 tk9 F9 N9 ho9; (try dsimp only); (try k_fold)))
  k_with "NT call ref" => (k_here; (with_reducible show wpAny _ _ (PySem.call (Value.ref 191) _ _) _ _ _); k_dflt (refine' Does.use (c_magnitude _ _ _ _ ?ha) ?k1 ?k2 ?k3 ?k4 ?k5 ?kK ?kd ?ku ?_; (case k1 => k_asm); (case k2 => k_asm); (case k3 => k_asm); (case k4 => k_asm); (case k5 => k_asm); (case kK => first | exact rfl | assumption); (case kd => ktr_room); (case ku => ktr_units); (case ha => (walk_at "NTn")); intro r9 tl9 h9 tk9 F9 N9 ho9; (try dsimp only); (try k_fold)))
  k_with "NT call ref" => (k_here; (with_reducible show wpAny _ _ (PySem.call (Value.ref 198) _ _) _ _ _); k_dflt (refine' Does.use (c_same _ _ _ _ _ _ _ ?ha ?hb) ?k1 ?k2 ?k3 ?k4 ?k5 ?kK ?kd ?ku ?_; (case k1 => k_asm); (case k2 => k_asm); (case k3 => k_asm); (case k4 => k_asm); (case k5 => k_asm); (case kK => first | exact rfl | assumption); (case kd => ktr_room); (case ku => ktr_units); (case ha => (walk_at "NTn")); (case hb => (walk_at "NTn")); intro r9 tl9 h9 tk9 F9 N9 ho9; (have e9 : _ = _ := ho9); clear ho9; subst e9; (try dsimp only); (try k_fold)))
  k_with "NT call ref" => (k_here; (with_reducible show wpAny _ _ (PySem.call (Value.ref 205) _ _) _ _ _); k_dflt (refine' Does.use (c_cmpmag _ _ _ _ _ _ _ ?ha ?hb ?hc ?hd ?he ?hf ?hg ?hh ?hi ?hj) ?k1 ?k2 ?k3 ?k4 ?k5 ?kK ?kd ?ku ?_; (case k1 => k_asm); (case k2 => k_asm); (case k3 => k_asm); (case k4 => k_asm); (case k5 => k_asm); (case kK => first | exact rfl | assumption); (case kd => ktr_room); (case ku => ktr_units); (case ha => (walk_at "NTn")); (case hb => (walk_at "NTn")); (case hc => (walk_at "NTa")); (case hd => (walk_at "NTa")); (case he => (walk_at "NTa")); (case hf => (walk_at "NTa")); (case hg => (walk_at "NTa")); (case hh => (walk_at "NTa")); (case hi => (walk_at "NTa")); (case hj => (walk_at "NTa")); intro r9 tl9 h9 tk9 F9 N9 ho9; obtain ⟨u9, e9⟩ := ho9; subst e9; (try dsimp only); (try k_fold)))
  k_with "NT call ref" => (k_here; (with_reducible show wpAny _ _ (PySem.call (Value.ref 212) _ _) _ _ _); k_dflt (refine' Does.use (c_cmpreals _ _ _ _ _ _ _ ?ha ?hb ?hc ?hd ?he ?hf ?hg ?hh ?hi ?hj) ?k1 ?k2 ?k3 ?k4 ?k5 ?kK ?kd ?ku ?_; (case k1 => k_asm); (case k2 => k_asm); (case k3 => k_asm); (case k4 => k_asm); (case k5 => k_asm); (case kK => first | exact rfl | assumption); (case kd => ktr_room); (case ku => ktr_units); (case ha => (walk_at "NTn")); (case hb => (walk_at "NTn")); (case hc => (walk_at "NTa")); (case hd => (walk_at "NTa")); (case he => (walk_at "NTa")); (case hf => (walk_at "NTa")); (case hg => (walk_at "NTa")); (case hh => (walk_at "NTa")); (case hi => (walk_at "NTa")); (case hj => (walk_at "NTa")); intro r9 tl9 h9 tk9 F9 N9 ho9; obtain ⟨u9, e9⟩ := ho9; subst e9; (try dsimp only); (try k_fold)))
  k_with "NT call ref" => (k_here; (with_reducible show wpAny _ _ (PySem.call (Value.ref 219) _ _) _ _ _); k_dflt (refine' Does.use (c_fullm _ _ _ _ _ _ ?ha ?hb ?hc ?hd ?he) ?k1 ?k2 ?k3 ?k4 ?k5 ?kK ?kd ?ku ?_; (case k1 => k_asm); (case k2 => k_asm); (case k3 => k_asm); (case k4 => k_asm); (case k5 => k_asm); (case kK => first | exact rfl | assumption); (case kd => ktr_room); (case ku => ktr_units); (case ha => (walk_at "NTn")); (case hb => (walk_at "NTa")); (case hc => (walk_at "NTa")); (case hd => (walk_at "NTa")); (case he => (walk_at "NTa")); intro r9 tl9 h9 tk9 F9 N9 ho9; obtain ⟨a9, P9, u9, v9, e9, hm9, hP9⟩ := ho9; subst e9; subst hP9; (try dsimp only); (try k_fold)))
  k_with "NT call ref" => (k_here; (with_reducible show wpAny _ _ (PySem.call (Value.ref 226) _ _) _ _ _); k_dflt (refine' Does.use (c_farther _ _ _ _ _ _ ?ha ?hb ?hc ?hd ?he ?hf ?hg ?hh ?hi) ?k1 ?k2 ?k3 ?k4 ?k5 ?kK ?kd ?ku ?_; (case k1 => k_asm); (case k2 => k_asm); (case k3 => k_asm); (case k4 => k_asm); (case k5 => k_asm); (case kK => first | exact rfl | assumption); (case kd => ktr_room); (case ku => ktr_units); (case ha => (walk_at "NTn")); (case hb => (walk_at "NTa")); (case hc => (walk_at "NTa")); (case hd => (walk_at "NTa")); (case he => (walk_at "NTa")); (case hf => (walk_at "NTa")); (case hg => (walk_at "NTa")); (case hh => (walk_at "NTa")); (case hi => (walk_at "NTa")); intro r9 tl9 h9 tk9 F9 N9 ho9; obtain ⟨m9, e9, hm9, hn9⟩ := ho9; (try dsimp only); (try k_fold)))
  k_with "NT call ref" => (k_here; (with_reducible show wpAny _ _ (PySem.call (Value.ref 233) _ _) _ _ _); k_dflt (refine' Does.use (c_nearer _ _ _ _ _ _ ?ha ?hb ?hc ?hd ?he ?hf ?hg ?hh ?hi) ?k1 ?k2 ?k3 ?k4 ?k5 ?kK ?kd ?ku ?_; (case k1 => k_asm); (case k2 => k_asm); (case k3 => k_asm); (case k4 => k_asm); (case k5 => k_asm); (case kK => first | exact rfl | assumption); (case kd => ktr_room); (case ku => ktr_units); (case ha => (walk_at "NTn")); (case hb => (walk_at "NTa")); (case hc => (walk_at "NTa")); (case hd => (walk_at "NTa")); (case he => (walk_at "NTa")); (case hf => (walk_at "NTa")); (case hg => (walk_at "NTa")); (case hh => (walk_at "NTa")); (case hi => (walk_at "NTa")); intro r9 tl9 h9 tk9 F9 N9 ho9; obtain ⟨m9, e9, hm9, hn9⟩ := ho9; (try dsimp only); (try k_fold)))
  k_with "NT call ref" => (k_here; (with_reducible show wpAny _ _ (PySem.call (Value.ref 240) _ _) _ _ _); k_dflt (refine' Does.use (c_above _ _ _ _ _ _ ?ha ?hb ?hc ?hd ?he ?hf ?hg ?hh ?hi) ?k1 ?k2 ?k3 ?k4 ?k5 ?kK ?kd ?ku ?_; (case k1 => k_asm); (case k2 => k_asm); (case k3 => k_asm); (case k4 => k_asm); (case k5 => k_asm); (case kK => first | exact rfl | assumption); (case kd => ktr_room); (case ku => ktr_units); (case ha => (walk_at "NTn")); (case hb => (walk_at "NTa")); (case hc => (walk_at "NTa")); (case hd => (walk_at "NTa")); (case he => (walk_at "NTa")); (case hf => (walk_at "NTa")); (case hg => (walk_at "NTa")); (case hh => (walk_at "NTa")); (case hi => (walk_at "NTa")); intro r9 tl9 h9 tk9 F9 N9 ho9; obtain ⟨m9, e9, hm9, hn9⟩ := ho9; (try dsimp only); (try k_fold)))
  k_with "NT call ref" => (k_here; (with_reducible show wpAny _ _ (PySem.call (Value.ref 247) _ _) _ _ _); k_dflt (refine' Does.use (c_below _ _ _ _ _ _ ?ha ?hb ?hc ?hd ?he ?hf ?hg ?hh ?hi) ?k1 ?k2 ?k3 ?k4 ?k5 ?kK ?kd ?ku ?_; (case k1 => k_asm); (case k2 => k_asm); (case k3 => k_asm); (case k4 => k_asm); (case k5 => k_asm); (case kK => first | exact rfl | assumption); (case kd => ktr_room); (case ku => ktr_units); (case ha => (walk_at "NTn")); (case hb => (walk_at "NTa")); (case hc => (walk_at "NTa")); (case hd => (walk_at "NTa")); (case he => (walk_at "NTa")); (case hf => (walk_at "NTa")); (case hg => (walk_at "NTa")); (case hh => (walk_at "NTa")); (case hi => (walk_at "NTa")); intro r9 tl9 h9 tk9 F9 N9 ho9; obtain ⟨m9, e9, hm9, hn9⟩ := ho9; (try dsimp only); (try k_fold)))
  k_with "NT call builtin:isinstance" => (k_here; (with_reducible show wpAny _ _ (PySem.call (Value.builtin "isinstance") [_, Value.ref 96]) _ _ _); k_dflt (refine' isi_num ?k1 ?k2 ?k3 ?k4 ?k5 ?_; (case k1 => k_asm); (case k2 => k_asm); (case k3 => k_asm); (case k4 => walk_at "NTn"); (case k5 => first | assumption | exact rfl); k_whole; intro tk9; (try dsimp only [Num.isReal])))
  k_with "NT call ref" => (k_here; (with_reducible show wpAny _ _ (PySem.call (Value.ref 345) _ _) _ _ _); k_dflt (refine' Does.use (c_isinexact _ _ _ ?ha) ?k1 ?k2 ?k3 ?k4 ?k5 ?kK ?kd ?ku ?_; (case k1 => k_asm); (case k2 => k_asm); (case k3 => k_asm); (case k4 => k_asm); (case k5 => k_asm); (case kK => first | exact rfl | assumption); (case kd => ktr_room); (case ku => ktr_units); (case ha => (walk_at "NTn")); intro r9 tl9 h9 tk9 F9 N9 ho9; (have e9 : _ = _ := ho9); clear ho9; subst e9; (try dsimp only); (try k_fold)))
  k_with "NT call ref" => (k_here; (with_reducible show wpAny _ _ (PySem.call (Value.ref 282) _ _) _ _ _); k_dflt (refine' Does.use (c_isexact _ _ _ ?ha) ?k1 ?k2 ?k3 ?k4 ?k5 ?kK ?kd ?ku ?_; (case k1 => k_asm); (case k2 => k_asm); (case k3 => k_asm); (case k4 => k_asm); (case k5 => k_asm); (case kK => first | exact rfl | assumption); (case kd => ktr_room); (case ku => ktr_units); (case ha => (walk_at "NTn")); intro r9 tl9 h9 tk9 F9 N9 ho9; (have e9 : _ = _ := ho9); clear ho9; subst e9; (try dsimp only); (try k_fold)))
  k_with "NT call ref" => (k_here; (with_reducible show wpAny _ _ (PySem.call (Value.ref 289) _ _) _ _ _); k_dflt (refine' Does.use (c_topof _ _ _ ?ha ?hb) ?k1 ?k2 ?k3 ?k4 ?k5 ?kK ?kd ?ku ?_; (case k1 => k_asm); (case k2 => k_asm); (case k3 => k_asm); (case k4 => k_asm); (case k5 => k_asm); (case kK => first | exact rfl | assumption); (case kd => ktr_room); (case ku => ktr_units); (case ha => (walk_at "NTn")); (case hb => first | assumption | rfl); intro r9 tl9 h9 tk9 F9 N9 ho9; obtain ⟨u9, e9⟩ := ho9; subst e9; (try dsimp only); (try k_fold)))
  k_with "NT call ref" => (k_here; (with_reducible show wpAny _ _ (PySem.call (Value.ref 296) _ _) _ _ _); k_dflt (refine' Does.use (c_bottomof _ _ _ ?ha ?hb) ?k1 ?k2 ?k3 ?k4 ?k5 ?kK ?kd ?ku ?_; (case k1 => k_asm); (case k2 => k_asm); (case k3 => k_asm); (case k4 => k_asm); (case k5 => k_asm); (case kK => first | exact rfl | assumption); (case kd => ktr_room); (case ku => ktr_units); (case ha => (walk_at "NTn")); (case hb => first | assumption | rfl); intro r9 tl9 h9 tk9 F9 N9 ho9; obtain ⟨u9, e9⟩ := ho9; subst e9; (try dsimp only); (try k_fold)))
  k_with "NT call ref" => (k_here; (with_reducible show wpAny _ _ (PySem.call (Value.ref 177) _ _) _ _ _); k_dflt (refine' Does.use (c_signof' _ _ _ ?ha ?hb) ?k1 ?k2 ?k3 ?k4 ?k5 ?kK ?kd ?ku ?_; (case k1 => k_asm); (case k2 => k_asm); (case k3 => k_asm); (case k4 => k_asm); (case k5 => k_asm); (case kK => first | exact rfl | assumption); (case kd => ktr_room); (case ku => ktr_units); (case ha => (walk_at "NTn")); (case hb => first | assumption | rfl); intro r9 tl9 h9 tk9 F9 N9 ho9; obtain ⟨u9, e9⟩ := ho9; subst e9; (try dsimp only); (try k_fold)))
  k_with "NT call ref" => (k_here; (with_reducible show wpAny _ _ (PySem.call (Value.ref 212) _ _) _ _ _); k_dflt (refine' Does.use (c_cmpreals' _ _ _ _ _ _ ?ha ?hb ?hc ?hd ?he ?hf ?hg) ?k1 ?k2 ?k3 ?k4 ?k5 ?kK ?kd ?ku ?_; (case k1 => k_asm); (case k2 => k_asm); (case k3 => k_asm); (case k4 => k_asm); (case k5 => k_asm); (case kK => first | exact rfl | assumption); (case kd => ktr_room); (case ku => ktr_units); (case ha => (walk_at "NTn")); (case hb => (walk_at "NTn")); (case hc => first | assumption | rfl); (case hd => first | assumption | rfl); (case he => (walk_at "NTa")); (case hf => (walk_at "NTo")); (case hg => (walk_at "NTo")); intro r9 tl9 h9 tk9 F9 N9 ho9; obtain ⟨u9, e9⟩ := ho9; subst e9; (try dsimp only); (try k_fold)))
  k_with "NT call ref" => (k_here; (with_reducible show wpAny _ _ (PySem.call (Value.ref 198) _ _) _ _ _); k_dflt (refine' Does.use (c_same' _ _ _ _ _ _ ?ha ?hb ?hc ?hd ?hf ?hg) ?k1 ?k2 ?k3 ?k4 ?k5 ?kK ?kd ?ku ?_; (case k1 => k_asm); (case k2 => k_asm); (case k3 => k_asm); (case k4 => k_asm); (case k5 => k_asm); (case kK => first | exact rfl | assumption); (case kd => ktr_room); (case ku => ktr_units); (case ha => (walk_at "NTn")); (case hb => (walk_at "NTn")); (case hc => first | assumption | rfl); (case hd => first | assumption | rfl); (case hf => (walk_at "NTo")); (case hg => (walk_at "NTo")); intro r9 tl9 h9 tk9 F9 N9 ho9; (have e9 : _ = _ := ho9); clear ho9; subst e9; (try dsimp only); (try k_fold)))
  k_with "NT call ref" => (k_here; (with_reducible show wpAny _ _ (PySem.call (Value.ref 163) _ _) _ _ _); k_dflt (refine' Does.use (c_exparts' _ _ _ _ ?ha ?hb ?hc ?hd) ?k1 ?k2 ?k3 ?k4 ?k5 ?kK ?kd ?ku ?_; (case k1 => k_asm); (case k2 => k_asm); (case k3 => k_asm); (case k4 => k_asm); (case k5 => k_asm); (case kK => first | exact rfl | assumption); (case kd => ktr_room); (case ku => ktr_units); (case ha => (walk_at "NTn")); (case hb => first | assumption | rfl); (case hc => (walk_at "NTa")); (case hd => (walk_at "NTo")); intro r9 tl9 h9 tk9 F9 N9 ho9; obtain ⟨a9, p9, q9, u9, v9, e9, hm9, hp9, hq9⟩ := ho9; subst e9; subst hp9; subst hq9; (try dsimp only); (try k_fold)))
  k_with "NT call ref" => (k_here; (with_reducible show wpAny _ _ (PySem.call (Value.ref 352) _ _) _ _ _); k_dflt (refine' Does.use (c_sign _ _ _ ?ha) ?k1 ?k2 ?k3 ?k4 ?k5 ?kK ?kd ?ku ?_; (case k1 => k_asm); (case k2 => k_asm); (case k3 => k_asm); (case k4 => k_asm); (case k5 => k_asm); (case kK => first | exact rfl | assumption); (case kd => ktr_room); (case ku => ktr_units); (case ha => (walk_at "NTn")); intro r9 tl9 h9 tk9 F9 N9 ho9; obtain ⟨u9, e9⟩ := ho9; subst e9; (try dsimp only); (try k_fold)))
  k_with "NT call ref" => (k_here; (with_reducible show wpAny _ _ (PySem.call (Value.ref 331) _ _) _ _ _); k_dflt (refine' Does.use (c_cmpexact _ _ _ _ _ ?ha ?hb ?hc ?hd ?he ?hf ?hg ?hh) ?k1 ?k2 ?k3 ?k4 ?k5 ?kK ?kd ?ku ?_; (case k1 => k_asm); (case k2 => k_asm); (case k3 => k_asm); (case k4 => k_asm); (case k5 => k_asm); (case kK => first | exact rfl | assumption); (case kd => ktr_room); (case ku => ktr_units); (case ha => (walk_at "NTn")); (case hb => (walk_at "NTn")); (case hc => first | assumption | rfl | exact ex_isReal _); (case hd => first | assumption | rfl | exact ex_isReal _); (case he => (walk_at "NTa")); (case hf => (walk_at "NTa")); (case hg => (walk_at "NTa")); (case hh => (walk_at "NTa")); intro r9 tl9 h9 tk9 F9 N9 ho9; obtain ⟨u9, e9⟩ := ho9; subst e9; (try dsimp only); (try k_fold)))
  k_with "NT call ref" => (k_here; (with_reducible show wpAny _ _ (PySem.call (Value.ref 338) _ _) _ _ _); k_dflt (refine' Does.use (c_eqexact _ _ _ _ _ _ ?ha ?hb ?hc ?hd ?hf ?hg) ?k1 ?k2 ?k3 ?k4 ?k5 ?kK ?kd ?ku ?_; (case k1 => k_asm); (case k2 => k_asm); (case k3 => k_asm); (case k4 => k_asm); (case k5 => k_asm); (case kK => first | exact rfl | assumption); (case kd => ktr_room); (case ku => ktr_units); (case ha => (walk_at "NTn")); (case hb => (walk_at "NTn")); (case hc => first | assumption | rfl); (case hd => first | assumption | rfl); (case hf => (walk_at "NTo")); (case hg => (walk_at "NTo")); intro r9 tl9 h9 tk9 F9 N9 ho9; (have e9 : _ = _ := ho9); clear ho9; subst e9; (try dsimp only); (try k_fold)))
  exact ret_all hret (by assumption) (by assumption) (by ktd_sub) ⟨_, rfl⟩
theorem laid_NTW9_1 : True := by
  k_with "NT call ref" => (k_here; (with_reducible show wpAny _ _ (PySem.call (Value.ref 303) _ _) _ _ _); k_dflt (refine' Does.use (c_gcdof _ _ _ _ _) ?k1 ?k2 ?k3 ?k4 ?k5 ?kK ?kd ?ku ?_; (case k1 => k_asm); (case k2 => k_asm); (case k3 => k_asm); (case k4 => k_asm); (case k5 => k_asm); (case kK => first | exact rfl | assumption); (case kd => ktr_room); (case ku => ktr_units);  intro r9 tl9 h9 tk9 F9 N9 ho9; obtain ⟨u9, e9⟩ := ho9; subst e9; (try dsimp only); (try k_fold)))
  trivial
set_option maxRecDepth 100000 in
set_option maxHeartbeats 8000000 in
theorem c_ratioof {w : World} {mean mg mb} (news : List (Addr × Obj)) (a b : Int) (t1 t2 : Tok) (hb : 0 < b) (hb2 : b < 1000000000) :
    Does w mean mg mb 317 9 [.int a t1, .int b t2] news (fun tl r => NumIn tl r (mkEx (a / (Int.gcd a b : Int)) (b / (Int.gcd a b : Int)))) := by
  obtain ⟨hg1, hg2⟩ := gcdPos (top := a) hb
  have ea := Int.fdiv_eq_ediv_of_nonneg a (show (0 : Int) ≤ (Int.gcd a b : Int) by omega)
  have eb := Int.fdiv_eq_ediv_of_nonneg b (show (0 : Int) ≤ (Int.gcd a b : Int) by omega)
  unfold Does
  k_fill
  intro dp un gd cn cs aF ccd cl outer A₀ base h₀ L mF s Q E B F X N T hK9 hD9 hU9 hret
  refine wpAny_call ?_
  k_dflt (refine' code_def (binds := [(Str.ofString "top", .int a t1), (Str.ofString "bottom", .int b t2)]) ?k1 ?k2 ?k3 ?k4 ?k5 ?kA ?kF ?kK ?k6 ?k7 ?k8 ?k9 ?kB ?_ ?c2 ?c3 ?c4 ?c5; (case kA => exact rfl); (case kF => exact rfl); (case kK => assumption); (case k1 => k_asm); (case k2 => k_asm); (case k3 => k_asm); (case k4 => k_asm); (case k5 => k_asm); (case k6 => k_is); (case k7 => k_is); (case k8 => ktr_room); (case k9 => exact BindsTo.of_eq rfl); (case c5 => decide); (case kB => exact locs rfl); (case c2 => exact rfl); (case c3 => exact rfl); (case c4 => exact rfl); k_whole; intro g' L' h' FG' F' N' B' X' T'; (try dsimp only); (try k_fold))

  k_steps
  · refine ret_all hret (by assumption) (by assumption) (by ktd_sub) ?_
    rw [← ea, ← eb, mkEx, if_pos (by assumption)]
    exact .whole
  · rename NumIn _ _ _ => hN
    refine ret_all hret (by assumption) (by assumption) (by ktd_sub) ?_
    rw [← ea, ← eb, mkEx, if_neg (by assumption)]
    exact hN.mono (by ktd_sub)
theorem laid_NTW9_2 : True := by
  k_with "NT call ref" => (k_here; (with_reducible show wpAny _ _ (PySem.call (Value.ref 317) _ _) _ _ _); k_dflt (refine' Does.use (c_ratioof _ _ _ _ _ ?ha ?hb) ?k1 ?k2 ?k3 ?k4 ?k5 ?kK ?kd ?ku ?_; (case k1 => k_asm); (case k2 => k_asm); (case k3 => k_asm); (case k4 => k_asm); (case k5 => k_asm); (case kK => first | exact rfl | assumption); (case kd => ktr_room); (case ku => ktr_units); (case ha => (walk_at "NTa")); (case hb => (walk_at "NTa")); intro r9 tl9 h9 tk9 F9 N9 ho9; (try dsimp only); (try k_fold)))
  trivial
set_option maxRecDepth 100000 in
set_option maxHeartbeats 8000000 in
theorem c_toexact {w : World} {mean mg mb} (news : List (Addr × Obj)) (v : Value) (p : Int) (x : Num) (hv : NumIn news v x) (hp2 : p ≤ 8) (ox : NumOk p x) :
    Does w mean mg mb 359 14 [v] news (fun tl r => NumIn tl r x.ex) := by
  obtain ⟨f1, f2, f3, f4⟩ := frac_bnd hp2 ox
  unfold Does
  k_fill
  intro dp un gd cn cs aF ccd cl outer A₀ base h₀ L mF s Q E B F X N T hK9 hD9 hU9 hret
  refine wpAny_call ?_
  k_dflt (refine' code_def (binds := [(Str.ofString "number", v)]) ?k1 ?k2 ?k3 ?k4 ?k5 ?kA ?kF ?kK ?k6 ?k7 ?k8 ?k9 ?kB ?_ ?c2 ?c3 ?c4 ?c5; (case kA => exact rfl); (case kF => exact rfl); (case kK => assumption); (case k1 => k_asm); (case k2 => k_asm); (case k3 => k_asm); (case k4 => k_asm); (case k5 => k_asm); (case k6 => k_is); (case k7 => k_is); (case k8 => ktr_room); (case k9 => exact BindsTo.of_eq rfl); (case c5 => decide); (case kB => exact locs rfl); (case c2 => exact rfl); (case c3 => exact rfl); (case c4 => exact rfl); k_whole; intro g' L' h' FG' F' N' B' X' T'; (try dsimp only); (try k_fold))

  k_steps
  · rename NumIn _ _ _ => hN
    refine ret_all hret (by assumption) (by assumption) (by ktd_sub) ?_
    obtain ⟨m, e, rfl⟩ := isReal_real (by assumption : x.isReal = true)
    exact hN.mono (by ktd_sub)
  · refine ret_all hret (by assumption) (by assumption) (by ktd_sub) ?_
    rw [ex_of_exact (by assumption)]
    exact hv.mono (by ktd_sub)
theorem laid_NTW9_3 : True := by
  k_with "NT call ref" => (k_here; (with_reducible show wpAny _ _ (PySem.call (Value.ref 359) _ _) _ _ _); k_dflt (refine' Does.use (c_toexact _ _ _ _ ?ha ?hb ?hc) ?k1 ?k2 ?k3 ?k4 ?k5 ?kK ?kd ?ku ?_; (case k1 => k_asm); (case k2 => k_asm); (case k3 => k_asm); (case k4 => k_asm); (case k5 => k_asm); (case kK => first | exact rfl | assumption); (case kd => ktr_room); (case ku => ktr_units); (case ha => (walk_at "NTn")); (case hb => (walk_at "NTa")); (case hc => (walk_at "NTo")); intro r9 tl9 h9 tk9 F9 N9 ho9; (try dsimp only); (try k_fold)))
  trivial
set_option maxRecDepth 100000 in
set_option maxHeartbeats 8000000 in
theorem c_toinexact {w : World} {mean mg mb} (news : List (Addr × Obj)) (p : Int) (t0 : Tok) (v : Value) (x : Num) (hv : NumIn news v x) (hp1 : 2 ≤ p) (hp2 : p ≤ 8) (ox : NumOk p x) :
    Does w mean mg mb 366 20 [.int p t0, v] news (fun tl r => ∃ m e, NumIn tl r (.real m e) ∧ NearSpec p x.fT x.fB m e ∧ NumOk p (.real m e)) := by
  obtain ⟨f1, f2, f3, f4⟩ := exact_bnd ox
  unfold Does
  k_fill
  intro dp un gd cn cs aF ccd cl outer A₀ base h₀ L mF s Q E B F X N T hK9 hD9 hU9 hret
  refine wpAny_call ?_
  k_dflt (refine' code_def (binds := [(Str.ofString "precision", .int p t0), (Str.ofString "number", v)]) ?k1 ?k2 ?k3 ?k4 ?k5 ?kA ?kF ?kK ?k6 ?k7 ?k8 ?k9 ?kB ?_ ?c2 ?c3 ?c4 ?c5; (case kA => exact rfl); (case kF => exact rfl); (case kK => assumption); (case k1 => k_asm); (case k2 => k_asm); (case k3 => k_asm); (case k4 => k_asm); (case k5 => k_asm); (case k6 => k_is); (case k7 => k_is); (case k8 => ktr_room); (case k9 => exact BindsTo.of_eq rfl); (case c5 => decide); (case kB => exact locs rfl); (case c2 => exact rfl); (case c3 => exact rfl); (case c4 => exact rfl); k_whole; intro g' L' h' FG' F' N' B' X' T'; (try dsimp only); (try k_fold))

  k_steps
  · refine ret_all hret (by assumption) (by assumption) (by ktd_sub) ?_
    obtain ⟨m, e, rfl⟩ := isReal_real (by assumption : x.isReal = true)
    exact ⟨m, e, hv.mono (by ktd_sub), near_self hp1 hp2 ox, ox⟩
  · rename NumIn _ _ _ => hN
    rename NearSpec _ _ _ _ _ => hS
    refine ret_all hret (by assumption) (by assumption) (by ktd_sub) ⟨_, _, hN.mono (by ktd_sub), ?_, (near_ok hp1 hp2 f1 f2 f3 f4 hS).1⟩
    rw [exact_fT (by assumption), exact_fB (by assumption)]
    exact hS
theorem laid_NTW9_4 : True := by
  k_with "NT call ref" => (k_here; (with_reducible show wpAny _ _ (PySem.call (Value.ref 366) _ _) _ _ _); k_dflt (refine' Does.use (c_toinexact _ _ _ _ _ ?ha ?hb ?hc ?hd) ?k1 ?k2 ?k3 ?k4 ?k5 ?kK ?kd ?ku ?_; (case k1 => k_asm); (case k2 => k_asm); (case k3 => k_asm); (case k4 => k_asm); (case k5 => k_asm); (case kK => first | exact rfl | assumption); (case kd => ktr_room); (case ku => ktr_units); (case ha => (walk_at "NTn")); (case hb => (walk_at "NTa")); (case hc => (walk_at "NTa")); (case hd => (walk_at "NTo")); intro r9 tl9 h9 tk9 F9 N9 ho9; obtain ⟨m9, e9, hm9, hs9, ho9⟩ := ho9; (try dsimp only); (try k_fold)))
  trivial
set_option maxRecDepth 100000 in
set_option maxHeartbeats 8000000 in
theorem c_compare {w : World} {mean mg mb} (news : List (Addr × Obj)) (v v' : Value) (p : Int) (x y : Num) (hv : NumIn news v x) (hv' : NumIn news v' y) (hp2 : p ≤ 8) (ox : NumOk p x) (oy : NumOk p y) :
    Does w mean mg mb 387 24 [v, v'] news (fun _ r => ∃ u, r = .int (less x y) u) := by
  obtain ⟨f1, f2⟩ := ex_bnd hp2 ox
  obtain ⟨g1, g2⟩ := ex_bnd hp2 oy
  unfold Does
  k_fill
  intro dp un gd cn cs aF ccd cl outer A₀ base h₀ L mF s Q E B F X N T hK9 hD9 hU9 hret
  refine wpAny_call ?_
  k_dflt (refine' code_def (binds := [(Str.ofString "one", v), (Str.ofString "other", v')]) ?k1 ?k2 ?k3 ?k4 ?k5 ?kA ?kF ?kK ?k6 ?k7 ?k8 ?k9 ?kB ?_ ?c2 ?c3 ?c4 ?c5; (case kA => exact rfl); (case kF => exact rfl); (case kK => assumption); (case k1 => k_asm); (case k2 => k_asm); (case k3 => k_asm); (case k4 => k_asm); (case k5 => k_asm); (case k6 => k_is); (case k7 => k_is); (case k8 => ktr_room); (case k9 => exact BindsTo.of_eq rfl); (case c5 => decide); (case kB => exact locs rfl); (case c2 => exact rfl); (case c3 => exact rfl); (case c4 => exact rfl); k_whole; intro g' L' h' FG' F' N' B' X' T'; (try dsimp only); (try k_fold))

  k_steps
  · exact ret_all hret (by assumption) (by assumption) (by ktd_sub) ⟨_, rfl⟩
  all_goals first
    | exact ret_all hret (by assumption) (by assumption) (by ktd_sub) ⟨_, by rw [less_gt ox oy (by assumption)]⟩
    | exact ret_all hret (by assumption) (by assumption) (by ktd_sub) ⟨_, by rw [less_lt ox oy (by omega)]⟩
    | exact ret_all hret (by assumption) (by assumption) (by ktd_sub) ⟨_, by rw [less_ex ox oy]⟩
theorem laid_NTW9_5 : True := by
  k_with "NT call ref" => (k_here; (with_reducible show wpAny _ _ (PySem.call (Value.ref 387) _ _) _ _ _); k_dflt (refine' Does.use (c_compare _ _ _ _ _ _ ?ha ?hb ?hc ?hd ?he) ?k1 ?k2 ?k3 ?k4 ?k5 ?kK ?kd ?ku ?_; (case k1 => k_asm); (case k2 => k_asm); (case k3 => k_asm); (case k4 => k_asm); (case k5 => k_asm); (case kK => first | exact rfl | assumption); (case kd => ktr_room); (case ku => ktr_units); (case ha => (walk_at "NTn")); (case hb => (walk_at "NTn")); (case hc => (walk_at "NTa")); (case hd => (walk_at "NTo")); (case he => (walk_at "NTo")); intro r9 tl9 h9 tk9 F9 N9 ho9; obtain ⟨u9, e9⟩ := ho9; subst e9; (try dsimp only); (try k_fold)))
  trivial
set_option maxRecDepth 100000 in
set_option maxHeartbeats 8000000 in
theorem c_samenum {w : World} {mean mg mb} (news : List (Addr × Obj)) (v v' : Value) (p : Int) (x y : Num) (hv : NumIn news v x) (hv' : NumIn news v' y) (ox : NumOk p x) (oy : NumOk p y) :
    Does w mean mg mb 394 24 [v, v'] news (fun _ r => r = .bool (x.isReal == y.isReal && decide (less x y = 0))) := by
  unfold Does
  k_fill
  intro dp un gd cn cs aF ccd cl outer A₀ base h₀ L mF s Q E B F X N T hK9 hD9 hU9 hret
  refine wpAny_call ?_
  k_dflt (refine' code_def (binds := [(Str.ofString "one", v), (Str.ofString "other", v')]) ?k1 ?k2 ?k3 ?k4 ?k5 ?kA ?kF ?kK ?k6 ?k7 ?k8 ?k9 ?kB ?_ ?c2 ?c3 ?c4 ?c5; (case kA => exact rfl); (case kF => exact rfl); (case kK => assumption); (case k1 => k_asm); (case k2 => k_asm); (case k3 => k_asm); (case k4 => k_asm); (case k5 => k_asm); (case k6 => k_is); (case k7 => k_is); (case k8 => ktr_room); (case k9 => exact BindsTo.of_eq rfl); (case c5 => decide); (case kB => exact locs rfl); (case c2 => exact rfl); (case c3 => exact rfl); (case c4 => exact rfl); k_whole; intro g' L' h' FG' F' N' B' X' T'; (try dsimp only); (try k_fold))

  k_steps
  all_goals exact ret_all hret (by assumption) (by assumption) (by ktd_sub) (by simp [*])
theorem laid_NTW9_6 : True := by
  k_with "NT call ref" => (k_here; (with_reducible show wpAny _ _ (PySem.call (Value.ref 394) _ _) _ _ _); k_dflt (refine' Does.use (c_samenum _ _ _ _ _ _ ?ha ?hb ?hc ?hd) ?k1 ?k2 ?k3 ?k4 ?k5 ?kK ?kd ?ku ?_; (case k1 => k_asm); (case k2 => k_asm); (case k3 => k_asm); (case k4 => k_asm); (case k5 => k_asm); (case kK => first | exact rfl | assumption); (case kd => ktr_room); (case ku => ktr_units); (case ha => (walk_at "NTn")); (case hb => (walk_at "NTn")); (case hc => (walk_at "NTo")); (case hd => (walk_at "NTo")); intro r9 tl9 h9 tk9 F9 N9 ho9; (have e9 : _ = _ := ho9); clear ho9; subst e9; (try dsimp only); (try k_fold)))
  trivial
end
section
/-- what as_of hands back of z, b: whether an inexact stands among the others -/
def PickOk (p : Int) (z : Num) (b : Bool) (z' : Num) : Prop := (b = true → ∃ m e, z' = .real m e ∧ NearSpec p z.fT z.fB m e ∧ NumOk p (.real m e)) ∧ (b = false → z' = z)
set_option maxRecDepth 100000 in
set_option maxHeartbeats 8000000 in
theorem c_hasinexact {w : World} {mean mg mb} (news : List (Addr × Obj)) (l : Addr) (v v' : Value) (x y : Num) (hl : (l, lisOf [v, v']) ∈ news) (hv : NumIn news v x) (hv' : NumIn news v' y) :
    Does w mean mg mb 373 6 [.ref l] news (fun _ r => r = .bool (x.isReal || y.isReal)) := by
  unfold Does
  k_fill
  intro dp un gd cn cs aF ccd cl outer A₀ base h₀ L mF s Q E B F X N T hK9 hD9 hU9 hret
  refine wpAny_call ?_
  k_dflt (refine' code_def (binds := [(Str.ofString "numbers", .ref l)]) ?k1 ?k2 ?k3 ?k4 ?k5 ?kA ?kF ?kK ?k6 ?k7 ?k8 ?k9 ?kB ?_ ?c2 ?c3 ?c4 ?c5; (case kA => exact rfl); (case kF => exact rfl); (case kK => assumption); (case k1 => k_asm); (case k2 => k_asm); (case k3 => k_asm); (case k4 => k_asm); (case k5 => k_asm); (case k6 => k_is); (case k7 => k_is); (case k8 => ktr_room); (case k9 => exact BindsTo.of_eq rfl); (case c5 => decide); (case kB => exact locs rfl); (case c2 => exact rfl); (case c3 => exact rfl); (case c4 => exact rfl); k_whole; intro g' L' h' FG' F' N' B' X' T'; (try dsimp only); (try k_fold))

  k_steps
  all_goals exact ret_all hret (by assumption) (by assumption) (by ktd_sub) (by simp [*])
theorem laid_NTW10_1 : True := by
  k_with "NT call ref" => (k_here; (with_reducible show wpAny _ _ (PySem.call (Value.ref 373) _ _) _ _ _); k_dflt (refine' Does.use (c_hasinexact _ _ _ _ _ _ ?hl ?ha ?hb) ?k1 ?k2 ?k3 ?k4 ?k5 ?kK ?kd ?ku ?_; (case k1 => k_asm); (case k2 => k_asm); (case k3 => k_asm); (case k4 => k_asm); (case k5 => k_asm); (case kK => first | exact rfl | assumption); (case kd => ktr_room); (case ku => ktr_units); (case hl => walk_at "NTm"); (case ha => (walk_at "NTn")); (case hb => (walk_at "NTn")); intro r9 tl9 h9 tk9 F9 N9 ho9; (have e9 : _ = _ := ho9); clear ho9; subst e9; (try dsimp only); (try k_fold)))
  trivial
set_option maxRecDepth 100000 in
set_option maxHeartbeats 8000000 in
theorem c_asof {w : World} {mean mg mb} (news : List (Addr × Obj)) (p : Int) (t0 : Tok) (l : Addr) (vz v v' : Value) (x y z : Num) (hl : (l, lisOf [v, v']) ∈ news) (hz : NumIn news vz z) (hv : NumIn news v x) (hv' : NumIn news v' y) (hp1 : 2 ≤ p) (hp2 : p ≤ 8) (oz : NumOk p z) :
    Does w mean mg mb 380 26 [.int p t0, vz, .ref l] news (fun tl r => ∃ z', NumIn tl r z' ∧ PickOk p z (x.isReal || y.isReal) z') := by
  unfold Does
  k_fill
  intro dp un gd cn cs aF ccd cl outer A₀ base h₀ L mF s Q E B F X N T hK9 hD9 hU9 hret
  refine wpAny_call ?_
  k_dflt (refine' code_def (binds := [(Str.ofString "precision", .int p t0), (Str.ofString "number", vz), (Str.ofString "others", .ref l)]) ?k1 ?k2 ?k3 ?k4 ?k5 ?kA ?kF ?kK ?k6 ?k7 ?k8 ?k9 ?kB ?_ ?c2 ?c3 ?c4 ?c5; (case kA => exact rfl); (case kF => exact rfl); (case kK => assumption); (case k1 => k_asm); (case k2 => k_asm); (case k3 => k_asm); (case k4 => k_asm); (case k5 => k_asm); (case k6 => k_is); (case k7 => k_is); (case k8 => ktr_room); (case k9 => exact BindsTo.of_eq rfl); (case c5 => decide); (case kB => exact locs rfl); (case c2 => exact rfl); (case c3 => exact rfl); (case c4 => exact rfl); k_whole; intro g' L' h' FG' F' N' B' X' T'; (try dsimp only); (try k_fold))

  k_steps
  · rename NumIn _ _ _ => hN
    refine ret_all hret (by assumption) (by assumption) (by ktd_sub) ⟨_, hN.mono (by ktd_sub), fun _ => ⟨_, _, rfl, by assumption, by assumption⟩, fun h => ?_⟩
    simp_all
  · refine ret_all hret (by assumption) (by assumption) (by ktd_sub) ⟨_, hz.mono (by ktd_sub), fun h => ?_, fun _ => rfl⟩
    simp_all
theorem laid_NTW10_2 : True := by
  k_with "NT call ref" => (k_here; (with_reducible show wpAny _ _ (PySem.call (Value.ref 380) _ _) _ _ _); k_dflt (refine' Does.use (c_asof _ _ _ _ _ _ _ _ _ _ ?hl ?ha ?hb ?hc ?hd ?he ?hf) ?k1 ?k2 ?k3 ?k4 ?k5 ?kK ?kd ?ku ?_; (case k1 => k_asm); (case k2 => k_asm); (case k3 => k_asm); (case k4 => k_asm); (case k5 => k_asm); (case kK => first | exact rfl | assumption); (case kd => ktr_room); (case ku => ktr_units); (case hl => walk_at "NTm"); (case ha => (walk_at "NTn")); (case hb => (walk_at "NTn")); (case hc => (walk_at "NTn")); (case hd => (walk_at "NTa")); (case he => (walk_at "NTa")); (case hf => (walk_at "NTo")); intro r9 tl9 h9 tk9 F9 N9 ho9; obtain ⟨z9, hz9, hk9⟩ := ho9; (try dsimp only); (try k_fold)))
  trivial
/-- the ledger bears a Tower of p bits -/
def TowerIn (news : List (Addr × Obj)) (tw : Addr) (p : Int) : Prop := ∃ (d : Addr) (h1 : Int) (t1 u1 : Tok), (tw, instObj 684 d) ∈ news ∧ (d, dictOf [⟨h1, .str "precision" t1, .int p u1⟩] 1) ∈ news
set_option maxRecDepth 100000 in
set_option maxHeartbeats 8000000 in
theorem c_greatest {w : World} {mean mg mb} (news : List (Addr × Obj)) (p : Int) (tw l : Addr) (v v' : Value) (x y : Num) (ht : TowerIn news tw p) (hl : (l, lisOf [v, v']) ∈ news) (hv : NumIn news v x) (hv' : NumIn news v' y) (hp1 : 2 ≤ p) (hp2 : p ≤ 8) (ox : NumOk p x) (oy : NumOk p y) :
    Does w mean mg mb 583 34 [.ref tw, .ref l] news (fun tl r => ∃ z', NumIn tl r z' ∧ PickOk p (if 0 < less y x then y else x) (x.isReal || y.isReal) z') := by
  obtain ⟨d, h1, t1, u1, hd1, hd2⟩ := ht
  unfold Does
  k_fill
  intro dp un gd cn cs aF ccd cl outer A₀ base h₀ L mF s Q E B F X N T hK9 hD9 hU9 hret
  refine wpAny_call ?_
  k_dflt (refine' code_def (binds := [(Str.ofString "self", .ref tw), (Str.ofString "numbers", .ref l)]) ?k1 ?k2 ?k3 ?k4 ?k5 ?kA ?kF ?kK ?k6 ?k7 ?k8 ?k9 ?kB ?_ ?c2 ?c3 ?c4 ?c5; (case kA => exact rfl); (case kF => exact rfl); (case kK => assumption); (case k1 => k_asm); (case k2 => k_asm); (case k3 => k_asm); (case k4 => k_asm); (case k5 => k_asm); (case k6 => k_is); (case k7 => k_is); (case k8 => ktr_room); (case k9 => exact BindsTo.of_eq rfl); (case c5 => decide); (case kB => exact locs rfl); (case c2 => exact rfl); (case c3 => exact rfl); (case c4 => exact rfl); k_whole; intro g' L' h' FG' F' N' B' X' T'; (try dsimp only); (try k_fold))

  k_steps
  · rename NumIn _ _ _ => hN
    refine ret_all hret (by assumption) (by assumption) (by ktd_sub) ⟨_, hN.mono (by ktd_sub), ?_⟩
    rw [if_pos (by assumption)]; assumption
  · rename NumIn _ _ _ => hN
    refine ret_all hret (by assumption) (by assumption) (by ktd_sub) ⟨_, hN.mono (by ktd_sub), ?_⟩
    rw [if_neg (by assumption)]; assumption
theorem laid_NTW10_3 : True := by
  k_with "NT call ref" => (k_here; (with_reducible show wpAny _ _ (PySem.call (Value.ref 583) _ _) _ _ _); k_dflt (refine' Does.use (c_greatest _ _ _ _ _ _ _ _ ?ht ?hl ?ha ?hb ?hc ?hd ?he ?hf) ?k1 ?k2 ?k3 ?k4 ?k5 ?kK ?kd ?ku ?_; (case k1 => k_asm); (case k2 => k_asm); (case k3 => k_asm); (case k4 => k_asm); (case k5 => k_asm); (case kK => first | exact rfl | assumption); (case kd => ktr_room); (case ku => ktr_units); (case ht => walk_at "NTt"); (case hl => walk_at "NTm"); (case ha => (walk_at "NTn")); (case hb => (walk_at "NTn")); (case hc => (walk_at "NTa")); (case hd => (walk_at "NTa")); (case he => (walk_at "NTo")); (case hf => (walk_at "NTo")); intro r9 tl9 h9 tk9 F9 N9 ho9; obtain ⟨z9, hz9, hk9⟩ := ho9; (try dsimp only); (try k_fold)))
  trivial
set_option maxRecDepth 100000 in
set_option maxHeartbeats 8000000 in
theorem c_least {w : World} {mean mg mb} (news : List (Addr × Obj)) (p : Int) (tw l : Addr) (v v' : Value) (x y : Num) (ht : TowerIn news tw p) (hl : (l, lisOf [v, v']) ∈ news) (hv : NumIn news v x) (hv' : NumIn news v' y) (hp1 : 2 ≤ p) (hp2 : p ≤ 8) (ox : NumOk p x) (oy : NumOk p y) :
    Does w mean mg mb 590 34 [.ref tw, .ref l] news (fun tl r => ∃ z', NumIn tl r z' ∧ PickOk p (if less y x < 0 then y else x) (x.isReal || y.isReal) z') := by
  obtain ⟨d, h1, t1, u1, hd1, hd2⟩ := ht
  unfold Does
  k_fill
  intro dp un gd cn cs aF ccd cl outer A₀ base h₀ L mF s Q E B F X N T hK9 hD9 hU9 hret
  refine wpAny_call ?_
  k_dflt (refine' code_def (binds := [(Str.ofString "self", .ref tw), (Str.ofString "numbers", .ref l)]) ?k1 ?k2 ?k3 ?k4 ?k5 ?kA ?kF ?kK ?k6 ?k7 ?k8 ?k9 ?kB ?_ ?c2 ?c3 ?c4 ?c5; (case kA => exact rfl); (case kF => exact rfl); (case kK => assumption); (case k1 => k_asm); (case k2 => k_asm); (case k3 => k_asm); (case k4 => k_asm); (case k5 => k_asm); (case k6 => k_is); (case k7 => k_is); (case k8 => ktr_room); (case k9 => exact BindsTo.of_eq rfl); (case c5 => decide); (case kB => exact locs rfl); (case c2 => exact rfl); (case c3 => exact rfl); (case c4 => exact rfl); k_whole; intro g' L' h' FG' F' N' B' X' T'; (try dsimp only); (try k_fold))

  k_steps
  · rename NumIn _ _ _ => hN
    refine ret_all hret (by assumption) (by assumption) (by ktd_sub) ⟨_, hN.mono (by ktd_sub), ?_⟩
    rw [if_pos (by assumption)]; assumption
  · rename NumIn _ _ _ => hN
    refine ret_all hret (by assumption) (by assumption) (by ktd_sub) ⟨_, hN.mono (by ktd_sub), ?_⟩
    rw [if_neg (by assumption)]; assumption
theorem laid_NTW10_4 : True := by
  k_with "NT call ref" => (k_here; (with_reducible show wpAny _ _ (PySem.call (Value.ref 590) _ _) _ _ _); k_dflt (refine' Does.use (c_least _ _ _ _ _ _ _ _ ?ht ?hl ?ha ?hb ?hc ?hd ?he ?hf) ?k1 ?k2 ?k3 ?k4 ?k5 ?kK ?kd ?ku ?_; (case k1 => k_asm); (case k2 => k_asm); (case k3 => k_asm); (case k4 => k_asm); (case k5 => k_asm); (case kK => first | exact rfl | assumption); (case kd => ktr_room); (case ku => ktr_units); (case ht => walk_at "NTt"); (case hl => walk_at "NTm"); (case ha => (walk_at "NTn")); (case hb => (walk_at "NTn")); (case hc => (walk_at "NTa")); (case hd => (walk_at "NTa")); (case he => (walk_at "NTo")); (case hf => (walk_at "NTo")); intro r9 tl9 h9 tk9 F9 N9 ho9; obtain ⟨z9, hz9, hk9⟩ := ho9; (try dsimp only); (try k_fold)))
  trivial
end
section
/-- the two numbers that _law_shown shows -/
def Num.p : Num → Int
  | .real m _ => m
  | x => x.top
def Num.q : Num → Int
  | .real _ e => e
  | x => x.bot
def Num.word (x : Num) : Str := if x.isReal = true then Str.ofString "real" else Str.ofString "exact"
set_option maxRecDepth 100000 in
set_option maxHeartbeats 8000000 in
theorem c_lfrac {w : World} {mean mg mb} (news : List (Addr × Obj)) (v : Value) (p : Int) (x : Num) (hv : NumIn news v x) (hp2 : p ≤ 8) (ox : NumOk p x) :
    Does w mean mg mb 716 3 [v] news (fun tl r => ∃ a s q u1 u2, r = .ref a ∧ (a, tupOf [.int s u1, .int q u2]) ∈ tl ∧ s = x.fT ∧ q = x.fB) := by
  unfold Does
  k_fill
  intro dp un gd cn cs aF ccd cl outer A₀ base h₀ L mF s Q E B F X N T hK9 hD9 hU9 hret
  refine wpAny_call ?_
  k_dflt (refine' code_def (binds := [(Str.ofString "number", v)]) ?k1 ?k2 ?k3 ?k4 ?k5 ?kA ?kF ?kK ?k6 ?k7 ?k8 ?k9 ?kB ?_ ?c2 ?c3 ?c4 ?c5; (case kA => exact rfl); (case kF => exact rfl); (case kK => assumption); (case k1 => k_asm); (case k2 => k_asm); (case k3 => k_asm); (case k4 => k_asm); (case k5 => k_asm); (case k6 => k_is); (case k7 => k_is); (case k8 => ktr_room); (case k9 => exact BindsTo.of_eq rfl); (case c5 => decide); (case kB => exact locs rfl); (case c2 => exact rfl); (case c3 => exact rfl); (case c4 => exact rfl); k_whole; intro g' L' h' FG' F' N' B' X' T'; (try dsimp only); (try k_fold))

  have hv0 := hv
  cases hv
  case real => have hr := real_bnd hp2 ox; k_steps; all_goals (refine' ret_all hret (by assumption) (by assumption) (by ktd_sub) ⟨_, _, _, _, _, rfl, ?hm, ?he, ?hf⟩; (case hm => k_mem); (case he => simp [Num.fT, *]); (case hf => simp [Num.fB, *]))
  all_goals (k_steps; refine' ret_all hret (by assumption) (by assumption) (by ktd_sub) ⟨_, _, _, _, _, rfl, ?hm, ?he, ?hf⟩; (case hm => k_mem); (case he => rfl); (case hf => rfl))
theorem laid_NTW11_1 : True := by
  k_with "NT call ref" => (k_here; (with_reducible show wpAny _ _ (PySem.call (Value.ref 716) _ _) _ _ _); k_dflt (refine' Does.use (c_lfrac _ _ _ _ ?ha ?hb ?hc) ?k1 ?k2 ?k3 ?k4 ?k5 ?kK ?kd ?ku ?_; (case k1 => k_asm); (case k2 => k_asm); (case k3 => k_asm); (case k4 => k_asm); (case k5 => k_asm); (case kK => first | exact rfl | assumption); (case kd => ktr_room); (case ku => ktr_units); (case ha => (walk_at "NTn")); (case hb => (walk_at "NTa")); (case hc => (walk_at "NTo")); intro r9 tl9 h9 tk9 F9 N9 ho9; obtain ⟨a9, s9, q9, u9, w9, e9, hm9, hp9, hq9⟩ := ho9; subst e9; subst hp9; subst hq9; (try dsimp only); (try k_fold)))
  trivial
set_option maxRecDepth 100000 in
set_option maxHeartbeats 8000000 in
theorem c_lless {w : World} {mean mg mb} (news : List (Addr × Obj)) (v v' : Value) (p : Int) (x y : Num) (hv : NumIn news v x) (hv' : NumIn news v' y) (hp2 : p ≤ 8) (ox : NumOk p x) (oy : NumOk p y) :
    Does w mean mg mb 737 6 [v, v'] news (fun _ r => ∃ u, r = .int (less x y) u) := by
  obtain ⟨f1, f2, f3, f4⟩ := frac_bnd hp2 ox
  obtain ⟨g1, g2, g3, g4⟩ := frac_bnd hp2 oy
  unfold Does
  k_fill
  intro dp un gd cn cs aF ccd cl outer A₀ base h₀ L mF s Q E B F X N T hK9 hD9 hU9 hret
  refine wpAny_call ?_
  k_dflt (refine' code_def (binds := [(Str.ofString "one", v), (Str.ofString "other", v')]) ?k1 ?k2 ?k3 ?k4 ?k5 ?kA ?kF ?kK ?k6 ?k7 ?k8 ?k9 ?kB ?_ ?c2 ?c3 ?c4 ?c5; (case kA => exact rfl); (case kF => exact rfl); (case kK => assumption); (case k1 => k_asm); (case k2 => k_asm); (case k3 => k_asm); (case k4 => k_asm); (case k5 => k_asm); (case k6 => k_is); (case k7 => k_is); (case k8 => ktr_room); (case k9 => exact BindsTo.of_eq rfl); (case c5 => decide); (case kB => exact locs rfl); (case c2 => exact rfl); (case c3 => exact rfl); (case c4 => exact rfl); k_whole; intro g' L' h' FG' F' N' B' X' T'; (try dsimp only); (try k_fold))

  k_steps
  exact ret_all hret (by assumption) (by assumption) (by ktd_sub) ⟨_, by rw [sow_eq]; rfl⟩
theorem laid_NTW11_2 : True := by
  k_with "NT call ref" => (k_here; (with_reducible show wpAny _ _ (PySem.call (Value.ref 737) _ _) _ _ _); k_dflt (refine' Does.use (c_lless _ _ _ _ _ _ ?ha ?hb ?hc ?hd ?he) ?k1 ?k2 ?k3 ?k4 ?k5 ?kK ?kd ?ku ?_; (case k1 => k_asm); (case k2 => k_asm); (case k3 => k_asm); (case k4 => k_asm); (case k5 => k_asm); (case kK => first | exact rfl | assumption); (case kd => ktr_room); (case ku => ktr_units); (case ha => (walk_at "NTn")); (case hb => (walk_at "NTn")); (case hc => (walk_at "NTa")); (case hd => (walk_at "NTo")); (case he => (walk_at "NTo")); intro r9 tl9 h9 tk9 F9 N9 ho9; obtain ⟨u9, e9⟩ := ho9; subst e9; (try dsimp only); (try k_fold)))
  trivial
set_option maxRecDepth 100000 in
set_option maxHeartbeats 8000000 in
theorem c_lshown {w : World} {mean mg mb} (news : List (Addr × Obj)) (v : Value) (x : Num) (hv : NumIn news v x) :
    Does w mean mg mb 723 3 [v] news (fun tl r => ∃ a u0 u1 u2, r = .ref a ∧ (a, lisOf [.str x.word u0, .int x.p u1, .int x.q u2]) ∈ tl) := by
  unfold Does
  k_fill
  intro dp un gd cn cs aF ccd cl outer A₀ base h₀ L mF s Q E B F X N T hK9 hD9 hU9 hret
  refine wpAny_call ?_
  k_dflt (refine' code_def (binds := [(Str.ofString "number", v)]) ?k1 ?k2 ?k3 ?k4 ?k5 ?kA ?kF ?kK ?k6 ?k7 ?k8 ?k9 ?kB ?_ ?c2 ?c3 ?c4 ?c5; (case kA => exact rfl); (case kF => exact rfl); (case kK => assumption); (case k1 => k_asm); (case k2 => k_asm); (case k3 => k_asm); (case k4 => k_asm); (case k5 => k_asm); (case k6 => k_is); (case k7 => k_is); (case k8 => ktr_room); (case k9 => exact BindsTo.of_eq rfl); (case c5 => decide); (case kB => exact locs rfl); (case c2 => exact rfl); (case c3 => exact rfl); (case c4 => exact rfl); k_whole; intro g' L' h' FG' F' N' B' X' T'; (try dsimp only); (try k_fold))

  have hv0 := hv
  cases hv
  all_goals (k_steps; refine' ret_all hret (by assumption) (by assumption) (by ktd_sub) ⟨_, _, _, _, rfl, ?hm⟩; (case hm => first | k_mem | trace_state))
theorem c_lshownR {w : World} {mean mg mb} (news : List (Addr × Obj)) (v : Value) (m e : Int) (hv : NumIn news v (.real m e)) :
    Does w mean mg mb 723 3 [v] news (fun tl r => ∃ a u0 u1 u2, r = .ref a ∧ (a, lisOf [.str (Str.ofString "real") u0, .int m u1, .int e u2]) ∈ tl) := c_lshown news v _ hv
theorem c_lshownE {w : World} {mean mg mb} (news : List (Addr × Obj)) (v : Value) (x : Num) (hv : NumIn news v x) (hx : x.isReal = false) :
    Does w mean mg mb 723 3 [v] news (fun tl r => ∃ a u0 u1 u2, r = .ref a ∧ (a, lisOf [.str (Str.ofString "exact") u0, .int x.top u1, .int x.bot u2]) ∈ tl) := by
  have h := c_lshown (w := w) (mean := mean) (mg := mg) (mb := mb) news v x hv
  cases x with
  | real m e => exact Bool.noConfusion hx
  | whole n => exact h
  | ratio t b => exact h
theorem laid_NTW11_3 : True := by
  k_with "NT call ref" => (k_here; (with_reducible show wpAny _ _ (PySem.call (Value.ref 723) _ _) _ _ _); k_dflt (refine' Does.use (c_lshownR _ _ _ _ ?ha) ?k1 ?k2 ?k3 ?k4 ?k5 ?kK ?kd ?ku ?_; (case k1 => k_asm); (case k2 => k_asm); (case k3 => k_asm); (case k4 => k_asm); (case k5 => k_asm); (case kK => first | exact rfl | assumption); (case kd => ktr_room); (case ku => ktr_units); (case ha => (walk_at "NTn")); intro r9 tl9 h9 tk9 F9 N9 ho9; obtain ⟨a9, u9, v9, w9, e9, hm9⟩ := ho9; subst e9; (try dsimp only); (try k_fold)))
  trivial
theorem laid_NTW11_4 : True := by
  k_with "NT call ref" => (k_here; (with_reducible show wpAny _ _ (PySem.call (Value.ref 723) _ _) _ _ _); k_dflt (refine' Does.use (c_lshownE _ _ _ ?ha ?hb) ?k1 ?k2 ?k3 ?k4 ?k5 ?kK ?kd ?ku ?_; (case k1 => k_asm); (case k2 => k_asm); (case k3 => k_asm); (case k4 => k_asm); (case k5 => k_asm); (case kK => first | exact rfl | assumption); (case kd => ktr_room); (case ku => ktr_units); (case ha => (walk_at "NTn")); (case hb => first | assumption | exact ex_isReal _ | rfl); intro r9 tl9 h9 tk9 F9 N9 ho9; obtain ⟨a9, u9, v9, w9, e9, hm9⟩ := ho9; subst e9; (try dsimp only); (try k_fold)))
  trivial
set_option maxRecDepth 100000 in
set_option maxHeartbeats 8000000 in
theorem c_lreal {w : World} {mean mg mb} (news : List (Addr × Obj)) (m e : Int) (t1 t2 : Tok) :
    Does w mean mg mb 709 6 [.int m t1, .int e t2] news (fun tl r => ∃ m' e', NumIn tl r (.real m' e') ∧ NormOf m e m' e') := by
  by_cases hm : m = 0
  · subst hm
    unfold Does
    k_fill
    intro dp un gd cn cs aF ccd cl outer A₀ base h₀ L mF s Q E B F X N T hK9 hD9 hU9 hret
    refine wpAny_call ?_
    k_dflt (refine' code_def (binds := [(Str.ofString "mantissa", .int 0 t1), (Str.ofString "exponent", .int e t2)]) ?k1 ?k2 ?k3 ?k4 ?k5 ?kA ?kF ?kK ?k6 ?k7 ?k8 ?k9 ?kB ?_ ?c2 ?c3 ?c4 ?c5; (case kA => exact rfl); (case kF => exact rfl); (case kK => assumption); (case k1 => k_asm); (case k2 => k_asm); (case k3 => k_asm); (case k4 => k_asm); (case k5 => k_asm); (case k6 => k_is); (case k7 => k_is); (case k8 => ktr_room); (case k9 => exact BindsTo.of_eq rfl); (case c5 => decide); (case kB => exact locs rfl); (case c2 => exact rfl); (case c3 => exact rfl); (case c4 => exact rfl); k_whole; intro g' L' h' FG' F' N' B' X' T'; (try dsimp only); (try k_fold))
  
    k_steps
    rename NumIn _ _ _ => hN
    exact ret_all hret (by assumption) (by assumption) (by ktd_sub) ⟨_, _, hN.mono (by ktd_sub), .inl ⟨rfl, rfl, rfl⟩⟩
  unfold Does
  k_fill
  intro dp un gd cn cs aF ccd cl outer A₀ base h₀ L mF s Q E B F X N T hK9 hD9 hU9 hret
  refine wpAny_call ?_
  k_dflt (refine' code_def (binds := [(Str.ofString "mantissa", .int m t1), (Str.ofString "exponent", .int e t2)]) ?k1 ?k2 ?k3 ?k4 ?k5 ?kA ?kF ?kK ?k6 ?k7 ?k8 ?k9 ?kB ?_ ?c2 ?c3 ?c4 ?c5; (case kA => exact rfl); (case kF => exact rfl); (case kK => assumption); (case k1 => k_asm); (case k2 => k_asm); (case k3 => k_asm); (case k4 => k_asm); (case k5 => k_asm); (case k6 => k_is); (case k7 => k_is); (case k8 => ktr_room); (case k9 => exact BindsTo.of_eq rfl); (case c5 => decide); (case kB => exact locs rfl); (case c2 => exact rfl); (case c3 => exact rfl); (case c4 => exact rfl); k_whole; intro g' L' h' FG' F' N' B' X' T'; (try dsimp only); (try k_fold))

  k_with "exec While Compare cons nil" => k_while (fun _ mm ee => TwosInv m e mm ee) (fun _ mm _ => mm.natAbs) "mantissa" "exponent"
  k_with "state" => first | exact twos_start hm | exact twos_turn (by assumption) (by assumption)
  k_with "measure" => exact twos_meas (by assumption) (by assumption)
  k_steps
  k_with_none
  k_with "NT subscriptTail Name Constant ref int" => (k_here; (with_reducible show wpAny _ _ (subscriptTail _ _ (Value.ref _) (Value.int _ _)) _ _ _); (with_unfolding_all refine' item_litK ?k1 ?k2 ?k3 ?k4 ?_ ?k6; (case k1 => exact News.isList (by k_asm) (by k_mem)); (case k2 => decide); (case k3 => decide); (case k4 => rfl); (case k6 => with_unfolding_all rfl); k_whole))
  k_with "NT call ref" => (k_here; (refine wpAny_call ?_); k_dflt (refine' code_def ?k1 ?k2 ?k3 ?k4 ?k5 ?kA ?kF ?kK ?k6 ?k7 ?k8 ?k9 ?kB ?_ ?c2 ?c3 ?c4 ?c5; (case kA => exact rfl); (case kF => exact rfl); (case kK => first | exact rfl | assumption); (case k1 => k_asm); (case k2 => k_asm); (case k3 => k_asm); (case k4 => k_asm); (case k5 => k_asm); (case k6 => k_is); (case k7 => k_is); (case k8 => ktr_room); (case k9 => exact BindsTo.of_eq rfl); (case c5 => decide); (case kB => exact locs rfl); (case c2 => exact rfl); (case c3 => exact rfl); (case c4 => exact rfl); k_whole; intro g' L' h' FG' F' N' B' X' T'; (try dsimp only); (try k_fold)))
  k_with "NT binaryOp Add ref ref" => (k_here; (with_reducible show wpAny _ _ (binaryOp _ (Value.ref _) (Value.ref _)) _ _ _); k_dflt (refine' kmk_add_lit ?F ?N ?a ?b ?e ?_ ?z; (case F => k_asm); (case N => k_asm); (case a => kmk_list); (case b => kmk_list); (case e => kl_lit); (case z => kl_room)); intro D' h' F' N' l1; (try dsimp only))
  k_with "NT compareOp NotEq ref ref" => (k_here; (with_reducible show wpAny _ _ (compareOp CmpOp.NotEq (Value.ref _) (Value.ref _)) _ _ _); k_dflt ((refine ne_dataH (by ke_read) (by ke_read) (by ke_shaped) (by ke_shaped) (by ktr_units) ?_); ke_norm))
  k_with "NT compareOp Eq ref ref" => (k_here; (with_reducible show wpAny _ _ (compareOp CmpOp.Eq (Value.ref _) (Value.ref _)) _ _ _); k_dflt ((refine eq_dataH (by ke_read) (by ke_read) (by ke_shaped) (by ke_shaped) (by ktr_units) ?_); ke_norm))
  k_with "NT exec For Name Name cons nil" => (k_here; (rename Fr _ _ _ _ => lF'); (with_unfolding_all refine' For_invVF lF' ?k1 ?k2 ?_; (case k1 => exact rfl); (case k2 => exact rfl); k_whole))
  k_with "NT exec For Name List cons nil" => (k_here; (rename Fr _ _ _ _ => lF'); (with_unfolding_all refine' For_invVF lF' ?k1 ?k2 ?_; (case k1 => exact rfl); (case k2 => exact rfl); k_whole))
  k_with "NT exec For Name Subscript cons nil" => (k_here; (rename Fr _ _ _ _ => lF'); (with_unfolding_all refine' For_invVF lF' ?k1 ?k2 ?_; (case k1 => exact rfl); (case k2 => exact rfl); k_whole))
  k_with "NT pyIter ref" => (k_here; (with_unfolding_all refine' iter_listUnr ?k0 ?k1 ?k2 ?k3 ?k4 ?k5 ?_; (case k0 => exact rfl); (case k1 => k_asm); (case k2 => k_asm); (case k3 => k_mem); (case k4 => exact rfl); (case k5 => exact rfl); k_whole); intro i9 l9)
  k_with "NT UnrEnd" => (refine UnrEnd.intro (by assumption) (by assumption) _ ?ks (offOf (by assumption)) ⟨?km, ?_⟩; (case ks => ktd_sub); (case km => k_mem))
  k_with "NT ite" => (k_openite; k_dflt (first | (refine ite_pos ?kc ?_; (case kc => first | omega | (simp only [decide_eq_true_eq, decide_eq_false_iff_not, beq_iff_eq, bne_iff_ne, ne_eq, Bool.not_eq_true', Bool.not_eq_false', Bool.and_eq_true, Bool.and_eq_false_iff, Bool.or_eq_true, Bool.not_not]; done) | ((simp only [decide_eq_true_eq, decide_eq_false_iff_not, beq_iff_eq, bne_iff_ne, ne_eq, Bool.not_eq_true', Bool.not_eq_false', Bool.and_eq_true, Bool.and_eq_false_iff, Bool.or_eq_true, Bool.not_not]); omega) | (simp; done))) | (refine ite_neg ?kc ?_; (case kc => first | omega | (simp only [decide_eq_true_eq, decide_eq_false_iff_not, beq_iff_eq, bne_iff_ne, ne_eq, Bool.not_eq_true', Bool.not_eq_false', Bool.and_eq_true, Bool.and_eq_false_iff, Bool.or_eq_true, Bool.not_not]; done) | ((simp only [decide_eq_true_eq, decide_eq_false_iff_not, beq_iff_eq, bne_iff_ne, ne_eq, Bool.not_eq_true', Bool.not_eq_false', Bool.and_eq_true, Bool.and_eq_false_iff, Bool.or_eq_true, Bool.not_not]); omega) | (simp; done)))))
  k_with "NT NTn" => first | assumption | exact NumIn.whole | exact NumIn.mono (by assumption) (by ktd_sub) | exact NumIn.real (by k_mem) (by k_mem) | exact NumIn.ratio (by k_mem) (by k_mem)
  k_with "NT NTt" => first | assumption | exact ⟨_, _, _, _, by k_mem, by k_mem⟩
  k_with "NT NTm" => first | assumption | ktr_member | k_mem
  k_with "NT NTo" => assumption
  k_with "NT NTa" => first | assumption | omega | decide
  k_with "NT binaryOp LShift int int" => (refine lshift_int_small ?kb1 ?kb2 ?kb3 ?_; (case kb1 => walk_at "NTa"); (case kb2 => walk_at "NTa"); (case kb3 => walk_at "NTa"))
  k_with "NT binaryOp Pow int int" => (refine pow_int_small ?kb1 ?kb2 ?kb3 ?_; (case kb1 => walk_at "NTa"); (case kb2 => walk_at "NTa"); (case kb3 => walk_at "NTa"))
  k_with "NT binaryOp RShift int int" => (refine rshift_int ?kb1 ?_; (case kb1 => walk_at "NTa"))
  k_with "NT binaryOp FloorDiv int int" => (refine floordiv_int ?kb1 ?_ (Or.inl (PyProof.noPylong_small ?kb2)); (case kb1 => walk_at "NTa"); (case kb2 => walk_at "NTa"))
  k_with "NT binaryOp Mult int int" => (refine mul_int ?_ ?kb1; rotate_left; (case kb1 => first | exact mulSignOk _ _ | exact IntMulOk.of_left (intBits_le_64 (by walk_at "NTa") (by walk_at "NTa")) | exact IntMulOk.of_right (intBits_le_64 (by walk_at "NTa") (by walk_at "NTa"))))
  k_with "NT call ref" => (k_here; (with_reducible show wpAny _ _ (PySem.call (Value.ref 695) _ _) _ _ _); k_dflt (refine' Does.use (c_low _ _ _ _ _ ?ha ?hb) ?k1 ?k2 ?k3 ?k4 ?k5 ?kK ?kd ?ku ?_; (case k1 => k_asm); (case k2 => k_asm); (case k3 => k_asm); (case k4 => k_asm); (case k5 => k_asm); (case kK => first | exact rfl | assumption); (case kd => ktr_room); (case ku => ktr_units); (case ha => omega); (case hb => omega); intro r9 tl9 h9 tk9 F9 N9 ho9; obtain ⟨a9, p9, q9, u9, v9, e9, hm9, hp9, hq9⟩ := ho9; subst e9; subst hp9; subst hq9; (try dsimp only); (try k_fold)))
  k_with "NT call ref" => (k_here; (with_reducible show wpAny _ _ (PySem.call (Value.ref 96) _ _) _ _ _); k_dflt (refine' Does.use (c_Real _ _ _ _ _) ?k1 ?k2 ?k3 ?k4 ?k5 ?kK ?kd ?ku ?_; (case k1 => k_asm); (case k2 => k_asm); (case k3 => k_asm); (case k4 => k_asm); (case k5 => k_asm); (case kK => first | exact rfl | assumption); (case kd => ktr_room); (case ku => ktr_units);  intro r9 tl9 h9 tk9 F9 N9 ho9; (try dsimp only); (try k_fold)))
  k_with "NT call ref" => (k_here; (with_reducible show wpAny _ _ (PySem.call (Value.ref 264) _ _) _ _ _); k_dflt (refine' Does.use (c_Ratio _ _ _ _ _) ?k1 ?k2 ?k3 ?k4 ?k5 ?kK ?kd ?ku ?_; (case k1 => k_asm); (case k2 => k_asm); (case k3 => k_asm); (case k4 => k_asm); (case k5 => k_asm); (case kK => first | exact rfl | assumption); (case kd => ktr_room); (case ku => ktr_units);  intro r9 tl9 h9 tk9 F9 N9 ho9; (try dsimp only); (try k_fold)))
  k_with "NT call ref" => (k_here; (with_reducible show wpAny _ _ (PySem.call (Value.ref 107) _ _) _ _ _); k_dflt (refine' Does.use (c_size _ _ _) ?k1 ?k2 ?k3 ?k4 ?k5 ?kK ?kd ?ku ?_; (case k1 => k_asm); (case k2 => k_asm); (case k3 => k_asm); (case k4 => k_asm); (case k5 => k_asm); (case kK => first | exact rfl | assumption); (case kd => ktr_room); (case ku => ktr_units);  intro r9 tl9 h9 tk9 F9 N9 ho9; obtain ⟨u9, e9⟩ := ho9; subst e9; (try dsimp only); (try k_fold)))
  k_with "NT call ref" => (k_here; (with_reducible show wpAny _ _ (PySem.call (Value.ref 114) _ _) _ _ _); k_dflt (refine' Does.use (c_sow _ _ _) ?k1 ?k2 ?k3 ?k4 ?k5 ?kK ?kd ?ku ?_; (case k1 => k_asm); (case k2 => k_asm); (case k3 => k_asm); (case k4 => k_asm); (case k5 => k_asm); (case kK => first | exact rfl | assumption); (case kd => ktr_room); (case ku => ktr_units);  intro r9 tl9 h9 tk9 F9 N9 ho9; obtain ⟨u9, e9⟩ := ho9; subst e9; (try dsimp only); (try k_fold)))
  k_with "NT call ref" => (k_here; (with_reducible show wpAny _ _ (PySem.call (Value.ref 121) _ _) _ _ _); k_dflt (refine' Does.use (c_zeros _ _ _ _ _ ?ha) ?k1 ?k2 ?k3 ?k4 ?k5 ?kK ?kd ?ku ?_; (case k1 => k_asm); (case k2 => k_asm); (case k3 => k_asm); (case k4 => k_asm); (case k5 => k_asm); (case kK => first | exact rfl | assumption); (case kd => ktr_room); (case ku => ktr_units); (case ha => assumption); intro r9 tl9 h9 tk9 F9 N9 ho9; obtain ⟨u9, e9⟩ := ho9; subst e9; (try dsimp only); (try k_fold)))
  k_with "NT call ref" => (k_here; (with_reducible show wpAny _ _ (PySem.call (Value.ref 128) _ _) _ _ _); k_dflt (refine' Does.use (c_lean _ _ _ _ _ ?ha ?ha2 ?hb ?hc) ?k1 ?k2 ?k3 ?k4 ?k5 ?kK ?kd ?ku ?_; (case k1 => k_asm); (case k2 => k_asm); (case k3 => k_asm); (case k4 => k_asm); (case k5 => k_asm); (case kK => first | exact rfl | assumption); (case kd => ktr_room); (case ku => ktr_units); (case ha => first | (walk_at "NTa") | exact (signMul (by omega) (by omega)).1); (case ha2 => first | (walk_at "NTa") | exact (signMul (by omega) (by omega)).2); (case hb => (walk_at "NTa")); (case hc => (walk_at "NTa")); intro r9 tl9 h9 tk9 F9 N9 ho9; obtain ⟨m9, e9, hm9, hn9⟩ := ho9; (try dsimp only); (try k_fold)))
  k_with "NT call ref" => (k_here; (with_reducible show wpAny _ _ (PySem.call (Value.ref 135) _ _) _ _ _); k_dflt (refine' Does.use (c_nshift _ _ _ _ _ ?ha ?hb ?hc) ?k1 ?k2 ?k3 ?k4 ?k5 ?kK ?kd ?ku ?_; (case k1 => k_asm); (case k2 => k_asm); (case k3 => k_asm); (case k4 => k_asm); (case k5 => k_asm); (case kK => first | exact rfl | assumption); (case kd => ktr_room); (case ku => ktr_units); (case ha => (walk_at "NTa")); (case hb => (walk_at "NTa")); (case hc => (walk_at "NTa")); intro r9 tl9 h9 tk9 F9 N9 ho9; obtain ⟨R9, u9, e9, hR9, hlo9, hhi9⟩ := ho9; subst e9; (try dsimp only); (try k_fold)))
  k_with "NT call ref" => (k_here; (with_reducible show wpAny _ _ (PySem.call (Value.ref 149) _ _) _ _ _); k_dflt (refine' Does.use (c_sticky _ _ _ _ ?ha ?hb) ?k1 ?k2 ?k3 ?k4 ?k5 ?kK ?kd ?ku ?_; (case k1 => k_asm); (case k2 => k_asm); (case k3 => k_asm); (case k4 => k_asm); (case k5 => k_asm); (case kK => first | exact rfl | assumption); (case kd => ktr_room); (case ku => ktr_units); (case ha => (walk_at "NTa")); (case hb => (walk_at "NTa")); intro r9 tl9 h9 tk9 F9 N9 ho9; obtain ⟨u9, e9⟩ := ho9; subst e9; (try dsimp only); (try k_fold)))
  k_with "NT call ref" => (k_here; (with_reducible show wpAny _ _ (PySem.call (Value.ref 142) _ _) _ _ _); k_dflt (refine' Does.use (c_sround _ _ _ _ _ _ _ ?ha ?hb ?hc ?hd ?he ?hf) ?k1 ?k2 ?k3 ?k4 ?k5 ?kK ?kd ?ku ?_; (case k1 => k_asm); (case k2 => k_asm); (case k3 => k_asm); (case k4 => k_asm); (case k5 => k_asm); (case kK => first | exact rfl | assumption); (case kd => ktr_room); (case ku => ktr_units); (case ha => (walk_at "NTa")); (case hb => (walk_at "NTa")); (case hc => (walk_at "NTa")); (case hd => (walk_at "NTa")); (case he => (walk_at "NTa")); (case hf => (walk_at "NTa")); intro r9 tl9 h9 tk9 F9 N9 ho9; obtain ⟨R9, m9, e9, hm9, hR9, hn9⟩ := ho9; (try dsimp only); (try k_fold)))
  k_with "NT call ref" => (k_here; (with_reducible show wpAny _ _ (PySem.call (Value.ref 156) _ _) _ _ _); k_dflt (refine' Does.use (c_rounded _ _ _ _ _ _ _ ?ha ?hb ?hc ?hd ?he ?hf) ?k1 ?k2 ?k3 ?k4 ?k5 ?kK ?kd ?ku ?_; (case k1 => k_asm); (case k2 => k_asm); (case k3 => k_asm); (case k4 => k_asm); (case k5 => k_asm); (case kK => first | exact rfl | assumption); (case kd => ktr_room); (case ku => ktr_units); (case ha => (walk_at "NTa")); (case hb => (walk_at "NTa")); (case hc => (walk_at "NTa")); (case hd => (walk_at "NTa")); (case he => (walk_at "NTa")); (case hf => (walk_at "NTa")); intro r9 tl9 h9 tk9 F9 N9 ho9; obtain ⟨m9, e9, hm9, hs9⟩ := ho9; (try dsimp only); (try k_fold)))
  k_with "NT call ref" => (k_here; (with_reducible show wpAny _ _ (PySem.call (Value.ref 163) _ _) _ _ _); k_dflt (refine' Does.use (c_exparts _ _ _ _ ?ha ?hb ?hc ?hd ?he) ?k1 ?k2 ?k3 ?k4 ?k5 ?kK ?kd ?ku ?_; (case k1 => k_asm); (case k2 => k_asm); (case k3 => k_asm); (case k4 => k_asm); (case k5 => k_asm); (case kK => first | exact rfl | assumption); (case kd => ktr_room); (case ku => ktr_units); (case ha => (walk_at "NTn")); (case hb => (walk_at "NTa")); (case hc => (walk_at "NTa")); (case hd => (walk_at "NTa")); (case he => (walk_at "NTa")); intro r9 tl9 h9 tk9 F9 N9 ho9; obtain ⟨a9, p9, q9, u9, v9, e9, hm9, hp9, hq9⟩ := ho9; subst e9; subst hp9; subst hq9; (try dsimp only); (try k_fold)))
  k_with "NT call ref" => (k_here; (with_reducible show wpAny _ _ (PySem.call (Value.ref 170) _ _) _ _ _); k_dflt (refine' Does.use (c_place _ _ _ _ ?ha) ?k1 ?k2 ?k3 ?k4 ?k5 ?kK ?kd ?ku ?_; (case k1 => k_asm); (case k2 => k_asm); (case k3 => k_asm); (case k4 => k_asm); (case k5 => k_asm); (case kK => first | exact rfl | assumption); (case kd => ktr_room); (case ku => ktr_units); (case ha => (walk_at "NTn")); intro r9 tl9 h9 tk9 F9 N9 ho9; obtain ⟨u9, e9⟩ := ho9; subst e9; (try dsimp only); (try k_fold)))
  k_with "NT call ref" => (k_here; (with_reducible show wpAny _ _ (PySem.call (Value.ref 177) _ _) _ _ _); k_dflt (refine' Does.use (c_signof _ _ _ _ ?ha) ?k1 ?k2 ?k3 ?k4 ?k5 ?kK ?kd ?ku ?_; (case k1 => k_asm); (case k2 => k_asm); (case k3 => k_asm); (case k4 => k_asm); (case k5 => k_asm); (case kK => first | exact rfl | assumption); (case kd => ktr_room); (case ku => ktr_units); (case ha => (walk_at "NTn")); intro r9 tl9 h9 tk9 F9 N9 ho9; obtain ⟨u9, e9⟩ := ho9; subst e9; (try dsimp only); (try k_fold)))
  k_with "NT call ref" => (k_here; (with_reducible show wpAny _ _ (PySem.call (Value.ref 184) _ _) _ _ _); k_dflt (refine' Does.use (c_negative _ _ _ _ ?ha) ?k1 ?k2 ?k3 ?k4 ?k5 ?kK ?kd ?ku ?_; (case k1 => k_asm); (case k2 => k_asm); (case k3 => k_asm); (case k4 => k_asm); (case k5 => k_asm); (case kK => first | exact rfl | assumption); (case kd => ktr_room); (case ku => ktr_units); (case ha => (walk_at "NTn")); intro r9 tl9 h9 tk9 F9 N9 ho9; (try dsimp only); (try k_fold)))
  k_with "NT call ref" => (k_here; (with_reducible show wpAny _ _ (PySem.call (Value.ref 191) _ _) _ _ _); k_dflt (refine' Does.use (c_magnitude _ _ _ _ ?ha) ?k1 ?k2 ?k3 ?k4 ?k5 ?kK ?kd ?ku ?_; (case k1 => k_asm); (case k2 => k_asm); (case k3 => k_asm); (case k4 => k_asm); (case k5 => k_asm); (case kK => first | exact rfl | assumption); (case kd => ktr_room); (case ku => ktr_units); (case ha => (walk_at "NTn")); intro r9 tl9 h9 tk9 F9 N9 ho9; (try dsimp only); (try k_fold)))
  k_with "NT call ref" => (k_here; (with_reducible show wpAny _ _ (PySem.call (Value.ref 198) _ _) _ _ _); k_dflt (refine' Does.use (c_same _ _ _ _ _ _ _ ?ha ?hb) ?k1 ?k2 ?k3 ?k4 ?k5 ?kK ?kd ?ku ?_; (case k1 => k_asm); (case k2 => k_asm); (case k3 => k_asm); (case k4 => k_asm); (case k5 => k_asm); (case kK => first | exact rfl | assumption); (case kd => ktr_room); (case ku => ktr_units); (case ha => (walk_at "NTn")); (case hb => (walk_at "NTn")); intro r9 tl9 h9 tk9 F9 N9 ho9; (have e9 : _ = _ := ho9); clear ho9; subst e9; (try dsimp only); (try k_fold)))
  k_with "NT call ref" => (k_here; (with_reducible show wpAny _ _ (PySem.call (Value.ref 205) _ _) _ _ _); k_dflt (refine' Does.use (c_cmpmag _ _ _ _ _ _ _ ?ha ?hb ?hc ?hd ?he ?hf ?hg ?hh ?hi ?hj) ?k1 ?k2 ?k3 ?k4 ?k5 ?kK ?kd ?ku ?_; (case k1 => k_asm); (case k2 => k_asm); (case k3 => k_asm); (case k4 => k_asm); (case k5 => k_asm); (case kK => first | exact rfl | assumption); (case kd => ktr_room); (case ku => ktr_units); (case ha => (walk_at "NTn")); (case hb => (walk_at "NTn")); (case hc => (walk_at "NTa")); (case hd => (walk_at "NTa")); (case he => (walk_at "NTa")); (case hf => (walk_at "NTa")); (case hg => (walk_at "NTa")); (case hh => (walk_at "NTa")); (case hi => (walk_at "NTa")); (case hj => (walk_at "NTa")); intro r9 tl9 h9 tk9 F9 N9 ho9; obtain ⟨u9, e9⟩ := ho9; subst e9; (try dsimp only); (try k_fold)))
  k_with "NT call ref" => (k_here; (with_reducible show wpAny _ _ (PySem.call (Value.ref 212) _ _) _ _ _); k_dflt (refine' Does.use (c_cmpreals _ _ _ _ _ _ _ ?ha ?hb ?hc ?hd ?he ?hf ?hg ?hh ?hi ?hj) ?k1 ?k2 ?k3 ?k4 ?k5 ?kK ?kd ?ku ?_; (case k1 => k_asm); (case k2 => k_asm); (case k3 => k_asm); (case k4 => k_asm); (case k5 => k_asm); (case kK => first | exact rfl | assumption); (case kd => ktr_room); (case ku => ktr_units); (case ha => (walk_at "NTn")); (case hb => (walk_at "NTn")); (case hc => (walk_at "NTa")); (case hd => (walk_at "NTa")); (case he => (walk_at "NTa")); (case hf => (walk_at "NTa")); (case hg => (walk_at "NTa")); (case hh => (walk_at "NTa")); (case hi => (walk_at "NTa")); (case hj => (walk_at "NTa")); intro r9 tl9 h9 tk9 F9 N9 ho9; obtain ⟨u9, e9⟩ := ho9; subst e9; (try dsimp only); (try k_fold)))
  k_with "NT call ref" => (k_here; (with_reducible show wpAny _ _ (PySem.call (Value.ref 219) _ _) _ _ _); k_dflt (refine' Does.use (c_fullm _ _ _ _ _ _ ?ha ?hb ?hc ?hd ?he) ?k1 ?k2 ?k3 ?k4 ?k5 ?kK ?kd ?ku ?_; (case k1 => k_asm); (case k2 => k_asm); (case k3 => k_asm); (case k4 => k_asm); (case k5 => k_asm); (case kK => first | exact rfl | assumption); (case kd => ktr_room); (case ku => ktr_units); (case ha => (walk_at "NTn")); (case hb => (walk_at "NTa")); (case hc => (walk_at "NTa")); (case hd => (walk_at "NTa")); (case he => (walk_at "NTa")); intro r9 tl9 h9 tk9 F9 N9 ho9; obtain ⟨a9, P9, u9, v9, e9, hm9, hP9⟩ := ho9; subst e9; subst hP9; (try dsimp only); (try k_fold)))
  k_with "NT call ref" => (k_here; (with_reducible show wpAny _ _ (PySem.call (Value.ref 226) _ _) _ _ _); k_dflt (refine' Does.use (c_farther _ _ _ _ _ _ ?ha ?hb ?hc ?hd ?he ?hf ?hg ?hh ?hi) ?k1 ?k2 ?k3 ?k4 ?k5 ?kK ?kd ?ku ?_; (case k1 => k_asm); (case k2 => k_asm); (case k3 => k_asm); (case k4 => k_asm); (case k5 => k_asm); (case kK => first | exact rfl | assumption); (case kd => ktr_room); (case ku => ktr_units); (case ha => (walk_at "NTn")); (case hb => (walk_at "NTa")); (case hc => (walk_at "NTa")); (case hd => (walk_at "NTa")); (case he => (walk_at "NTa")); (case hf => (walk_at "NTa")); (case hg => (walk_at "NTa")); (case hh => (walk_at "NTa")); (case hi => (walk_at "NTa")); intro r9 tl9 h9 tk9 F9 N9 ho9; obtain ⟨m9, e9, hm9, hn9⟩ := ho9; (try dsimp only); (try k_fold)))
  k_with "NT call ref" => (k_here; (with_reducible show wpAny _ _ (PySem.call (Value.ref 233) _ _) _ _ _); k_dflt (refine' Does.use (c_nearer _ _ _ _ _ _ ?ha ?hb ?hc ?hd ?he ?hf ?hg ?hh ?hi) ?k1 ?k2 ?k3 ?k4 ?k5 ?kK ?kd ?ku ?_; (case k1 => k_asm); (case k2 => k_asm); (case k3 => k_asm); (case k4 => k_asm); (case k5 => k_asm); (case kK => first | exact rfl | assumption); (case kd => ktr_room); (case ku => ktr_units); (case ha => (walk_at "NTn")); (case hb => (walk_at "NTa")); (case hc => (walk_at "NTa")); (case hd => (walk_at "NTa")); (case he => (walk_at "NTa")); (case hf => (walk_at "NTa")); (case hg => (walk_at "NTa")); (case hh => (walk_at "NTa")); (case hi => (walk_at "NTa")); intro r9 tl9 h9 tk9 F9 N9 ho9; obtain ⟨m9, e9, hm9, hn9⟩ := ho9; (try dsimp only); (try k_fold)))
  k_with "NT call ref" => (k_here; (with_reducible show wpAny _ _ (PySem.call (Value.ref 240) _ _) _ _ _); k_dflt (refine' Does.use (c_above _ _ _ _ _ _ ?ha ?hb ?hc ?hd ?he ?hf ?hg ?hh ?hi) ?k1 ?k2 ?k3 ?k4 ?k5 ?kK ?kd ?ku ?_; (case k1 => k_asm); (case k2 => k_asm); (case k3 => k_asm); (case k4 => k_asm); (case k5 => k_asm); (case kK => first | exact rfl | assumption); (case kd => ktr_room); (case ku => ktr_units); (case ha => (walk_at "NTn")); (case hb => (walk_at "NTa")); (case hc => (walk_at "NTa")); (case hd => (walk_at "NTa")); (case he => (walk_at "NTa")); (case hf => (walk_at "NTa")); (case hg => (walk_at "NTa")); (case hh => (walk_at "NTa")); (case hi => (walk_at "NTa")); intro r9 tl9 h9 tk9 F9 N9 ho9; obtain ⟨m9, e9, hm9, hn9⟩ := ho9; (try dsimp only); (try k_fold)))
  k_with "NT call ref" => (k_here; (with_reducible show wpAny _ _ (PySem.call (Value.ref 247) _ _) _ _ _); k_dflt (refine' Does.use (c_below _ _ _ _ _ _ ?ha ?hb ?hc ?hd ?he ?hf ?hg ?hh ?hi) ?k1 ?k2 ?k3 ?k4 ?k5 ?kK ?kd ?ku ?_; (case k1 => k_asm); (case k2 => k_asm); (case k3 => k_asm); (case k4 => k_asm); (case k5 => k_asm); (case kK => first | exact rfl | assumption); (case kd => ktr_room); (case ku => ktr_units); (case ha => (walk_at "NTn")); (case hb => (walk_at "NTa")); (case hc => (walk_at "NTa")); (case hd => (walk_at "NTa")); (case he => (walk_at "NTa")); (case hf => (walk_at "NTa")); (case hg => (walk_at "NTa")); (case hh => (walk_at "NTa")); (case hi => (walk_at "NTa")); intro r9 tl9 h9 tk9 F9 N9 ho9; obtain ⟨m9, e9, hm9, hn9⟩ := ho9; (try dsimp only); (try k_fold)))
  k_with "NT call builtin:isinstance" => (k_here; (with_reducible show wpAny _ _ (PySem.call (Value.builtin "isinstance") [_, Value.ref 96]) _ _ _); k_dflt (refine' isi_num ?k1 ?k2 ?k3 ?k4 ?k5 ?_; (case k1 => k_asm); (case k2 => k_asm); (case k3 => k_asm); (case k4 => walk_at "NTn"); (case k5 => first | assumption | exact rfl); k_whole; intro tk9; (try dsimp only [Num.isReal])))
  k_with "NT call ref" => (k_here; (with_reducible show wpAny _ _ (PySem.call (Value.ref 345) _ _) _ _ _); k_dflt (refine' Does.use (c_isinexact _ _ _ ?ha) ?k1 ?k2 ?k3 ?k4 ?k5 ?kK ?kd ?ku ?_; (case k1 => k_asm); (case k2 => k_asm); (case k3 => k_asm); (case k4 => k_asm); (case k5 => k_asm); (case kK => first | exact rfl | assumption); (case kd => ktr_room); (case ku => ktr_units); (case ha => (walk_at "NTn")); intro r9 tl9 h9 tk9 F9 N9 ho9; (have e9 : _ = _ := ho9); clear ho9; subst e9; (try dsimp only); (try k_fold)))
  k_with "NT call ref" => (k_here; (with_reducible show wpAny _ _ (PySem.call (Value.ref 282) _ _) _ _ _); k_dflt (refine' Does.use (c_isexact _ _ _ ?ha) ?k1 ?k2 ?k3 ?k4 ?k5 ?kK ?kd ?ku ?_; (case k1 => k_asm); (case k2 => k_asm); (case k3 => k_asm); (case k4 => k_asm); (case k5 => k_asm); (case kK => first | exact rfl | assumption); (case kd => ktr_room); (case ku => ktr_units); (case ha => (walk_at "NTn")); intro r9 tl9 h9 tk9 F9 N9 ho9; (have e9 : _ = _ := ho9); clear ho9; subst e9; (try dsimp only); (try k_fold)))
  k_with "NT call ref" => (k_here; (with_reducible show wpAny _ _ (PySem.call (Value.ref 289) _ _) _ _ _); k_dflt (refine' Does.use (c_topof _ _ _ ?ha ?hb) ?k1 ?k2 ?k3 ?k4 ?k5 ?kK ?kd ?ku ?_; (case k1 => k_asm); (case k2 => k_asm); (case k3 => k_asm); (case k4 => k_asm); (case k5 => k_asm); (case kK => first | exact rfl | assumption); (case kd => ktr_room); (case ku => ktr_units); (case ha => (walk_at "NTn")); (case hb => first | assumption | rfl); intro r9 tl9 h9 tk9 F9 N9 ho9; obtain ⟨u9, e9⟩ := ho9; subst e9; (try dsimp only); (try k_fold)))
  k_with "NT call ref" => (k_here; (with_reducible show wpAny _ _ (PySem.call (Value.ref 296) _ _) _ _ _); k_dflt (refine' Does.use (c_bottomof _ _ _ ?ha ?hb) ?k1 ?k2 ?k3 ?k4 ?k5 ?kK ?kd ?ku ?_; (case k1 => k_asm); (case k2 => k_asm); (case k3 => k_asm); (case k4 => k_asm); (case k5 => k_asm); (case kK => first | exact rfl | assumption); (case kd => ktr_room); (case ku => ktr_units); (case ha => (walk_at "NTn")); (case hb => first | assumption | rfl); intro r9 tl9 h9 tk9 F9 N9 ho9; obtain ⟨u9, e9⟩ := ho9; subst e9; (try dsimp only); (try k_fold)))
  k_with "NT call ref" => (k_here; (with_reducible show wpAny _ _ (PySem.call (Value.ref 177) _ _) _ _ _); k_dflt (refine' Does.use (c_signof' _ _ _ ?ha ?hb) ?k1 ?k2 ?k3 ?k4 ?k5 ?kK ?kd ?ku ?_; (case k1 => k_asm); (case k2 => k_asm); (case k3 => k_asm); (case k4 => k_asm); (case k5 => k_asm); (case kK => first | exact rfl | assumption); (case kd => ktr_room); (case ku => ktr_units); (case ha => (walk_at "NTn")); (case hb => first | assumption | rfl); intro r9 tl9 h9 tk9 F9 N9 ho9; obtain ⟨u9, e9⟩ := ho9; subst e9; (try dsimp only); (try k_fold)))
  k_with "NT call ref" => (k_here; (with_reducible show wpAny _ _ (PySem.call (Value.ref 212) _ _) _ _ _); k_dflt (refine' Does.use (c_cmpreals' _ _ _ _ _ _ ?ha ?hb ?hc ?hd ?he ?hf ?hg) ?k1 ?k2 ?k3 ?k4 ?k5 ?kK ?kd ?ku ?_; (case k1 => k_asm); (case k2 => k_asm); (case k3 => k_asm); (case k4 => k_asm); (case k5 => k_asm); (case kK => first | exact rfl | assumption); (case kd => ktr_room); (case ku => ktr_units); (case ha => (walk_at "NTn")); (case hb => (walk_at "NTn")); (case hc => first | assumption | rfl); (case hd => first | assumption | rfl); (case he => (walk_at "NTa")); (case hf => (walk_at "NTo")); (case hg => (walk_at "NTo")); intro r9 tl9 h9 tk9 F9 N9 ho9; obtain ⟨u9, e9⟩ := ho9; subst e9; (try dsimp only); (try k_fold)))
  k_with "NT call ref" => (k_here; (with_reducible show wpAny _ _ (PySem.call (Value.ref 198) _ _) _ _ _); k_dflt (refine' Does.use (c_same' _ _ _ _ _ _ ?ha ?hb ?hc ?hd ?hf ?hg) ?k1 ?k2 ?k3 ?k4 ?k5 ?kK ?kd ?ku ?_; (case k1 => k_asm); (case k2 => k_asm); (case k3 => k_asm); (case k4 => k_asm); (case k5 => k_asm); (case kK => first | exact rfl | assumption); (case kd => ktr_room); (case ku => ktr_units); (case ha => (walk_at "NTn")); (case hb => (walk_at "NTn")); (case hc => first | assumption | rfl); (case hd => first | assumption | rfl); (case hf => (walk_at "NTo")); (case hg => (walk_at "NTo")); intro r9 tl9 h9 tk9 F9 N9 ho9; (have e9 : _ = _ := ho9); clear ho9; subst e9; (try dsimp only); (try k_fold)))
  k_with "NT call ref" => (k_here; (with_reducible show wpAny _ _ (PySem.call (Value.ref 163) _ _) _ _ _); k_dflt (refine' Does.use (c_exparts' _ _ _ _ ?ha ?hb ?hc ?hd) ?k1 ?k2 ?k3 ?k4 ?k5 ?kK ?kd ?ku ?_; (case k1 => k_asm); (case k2 => k_asm); (case k3 => k_asm); (case k4 => k_asm); (case k5 => k_asm); (case kK => first | exact rfl | assumption); (case kd => ktr_room); (case ku => ktr_units); (case ha => (walk_at "NTn")); (case hb => first | assumption | rfl); (case hc => (walk_at "NTa")); (case hd => (walk_at "NTo")); intro r9 tl9 h9 tk9 F9 N9 ho9; obtain ⟨a9, p9, q9, u9, v9, e9, hm9, hp9, hq9⟩ := ho9; subst e9; subst hp9; subst hq9; (try dsimp only); (try k_fold)))
  k_with "NT call ref" => (k_here; (with_reducible show wpAny _ _ (PySem.call (Value.ref 352) _ _) _ _ _); k_dflt (refine' Does.use (c_sign _ _ _ ?ha) ?k1 ?k2 ?k3 ?k4 ?k5 ?kK ?kd ?ku ?_; (case k1 => k_asm); (case k2 => k_asm); (case k3 => k_asm); (case k4 => k_asm); (case k5 => k_asm); (case kK => first | exact rfl | assumption); (case kd => ktr_room); (case ku => ktr_units); (case ha => (walk_at "NTn")); intro r9 tl9 h9 tk9 F9 N9 ho9; obtain ⟨u9, e9⟩ := ho9; subst e9; (try dsimp only); (try k_fold)))
  k_with "NT call ref" => (k_here; (with_reducible show wpAny _ _ (PySem.call (Value.ref 331) _ _) _ _ _); k_dflt (refine' Does.use (c_cmpexact _ _ _ _ _ ?ha ?hb ?hc ?hd ?he ?hf ?hg ?hh) ?k1 ?k2 ?k3 ?k4 ?k5 ?kK ?kd ?ku ?_; (case k1 => k_asm); (case k2 => k_asm); (case k3 => k_asm); (case k4 => k_asm); (case k5 => k_asm); (case kK => first | exact rfl | assumption); (case kd => ktr_room); (case ku => ktr_units); (case ha => (walk_at "NTn")); (case hb => (walk_at "NTn")); (case hc => first | assumption | rfl | exact ex_isReal _); (case hd => first | assumption | rfl | exact ex_isReal _); (case he => (walk_at "NTa")); (case hf => (walk_at "NTa")); (case hg => (walk_at "NTa")); (case hh => (walk_at "NTa")); intro r9 tl9 h9 tk9 F9 N9 ho9; obtain ⟨u9, e9⟩ := ho9; subst e9; (try dsimp only); (try k_fold)))
  k_with "NT call ref" => (k_here; (with_reducible show wpAny _ _ (PySem.call (Value.ref 338) _ _) _ _ _); k_dflt (refine' Does.use (c_eqexact _ _ _ _ _ _ ?ha ?hb ?hc ?hd ?hf ?hg) ?k1 ?k2 ?k3 ?k4 ?k5 ?kK ?kd ?ku ?_; (case k1 => k_asm); (case k2 => k_asm); (case k3 => k_asm); (case k4 => k_asm); (case k5 => k_asm); (case kK => first | exact rfl | assumption); (case kd => ktr_room); (case ku => ktr_units); (case ha => (walk_at "NTn")); (case hb => (walk_at "NTn")); (case hc => first | assumption | rfl); (case hd => first | assumption | rfl); (case hf => (walk_at "NTo")); (case hg => (walk_at "NTo")); intro r9 tl9 h9 tk9 F9 N9 ho9; (have e9 : _ = _ := ho9); clear ho9; subst e9; (try dsimp only); (try k_fold)))
  k_with "NT call ref" => (k_here; (with_reducible show wpAny _ _ (PySem.call (Value.ref 303) _ _) _ _ _); k_dflt (refine' Does.use (c_gcdof _ _ _ _ _) ?k1 ?k2 ?k3 ?k4 ?k5 ?kK ?kd ?ku ?_; (case k1 => k_asm); (case k2 => k_asm); (case k3 => k_asm); (case k4 => k_asm); (case k5 => k_asm); (case kK => first | exact rfl | assumption); (case kd => ktr_room); (case ku => ktr_units);  intro r9 tl9 h9 tk9 F9 N9 ho9; obtain ⟨u9, e9⟩ := ho9; subst e9; (try dsimp only); (try k_fold)))
  k_with "NT call ref" => (k_here; (with_reducible show wpAny _ _ (PySem.call (Value.ref 317) _ _) _ _ _); k_dflt (refine' Does.use (c_ratioof _ _ _ _ _ ?ha ?hb) ?k1 ?k2 ?k3 ?k4 ?k5 ?kK ?kd ?ku ?_; (case k1 => k_asm); (case k2 => k_asm); (case k3 => k_asm); (case k4 => k_asm); (case k5 => k_asm); (case kK => first | exact rfl | assumption); (case kd => ktr_room); (case ku => ktr_units); (case ha => (walk_at "NTa")); (case hb => (walk_at "NTa")); intro r9 tl9 h9 tk9 F9 N9 ho9; (try dsimp only); (try k_fold)))
  k_with "NT call ref" => (k_here; (with_reducible show wpAny _ _ (PySem.call (Value.ref 359) _ _) _ _ _); k_dflt (refine' Does.use (c_toexact _ _ _ _ ?ha ?hb ?hc) ?k1 ?k2 ?k3 ?k4 ?k5 ?kK ?kd ?ku ?_; (case k1 => k_asm); (case k2 => k_asm); (case k3 => k_asm); (case k4 => k_asm); (case k5 => k_asm); (case kK => first | exact rfl | assumption); (case kd => ktr_room); (case ku => ktr_units); (case ha => (walk_at "NTn")); (case hb => (walk_at "NTa")); (case hc => (walk_at "NTo")); intro r9 tl9 h9 tk9 F9 N9 ho9; (try dsimp only); (try k_fold)))
  k_with "NT call ref" => (k_here; (with_reducible show wpAny _ _ (PySem.call (Value.ref 366) _ _) _ _ _); k_dflt (refine' Does.use (c_toinexact _ _ _ _ _ ?ha ?hb ?hc ?hd) ?k1 ?k2 ?k3 ?k4 ?k5 ?kK ?kd ?ku ?_; (case k1 => k_asm); (case k2 => k_asm); (case k3 => k_asm); (case k4 => k_asm); (case k5 => k_asm); (case kK => first | exact rfl | assumption); (case kd => ktr_room); (case ku => ktr_units); (case ha => (walk_at "NTn")); (case hb => (walk_at "NTa")); (case hc => (walk_at "NTa")); (case hd => (walk_at "NTo")); intro r9 tl9 h9 tk9 F9 N9 ho9; obtain ⟨m9, e9, hm9, hs9, ho9⟩ := ho9; (try dsimp only); (try k_fold)))
  k_with "NT call ref" => (k_here; (with_reducible show wpAny _ _ (PySem.call (Value.ref 387) _ _) _ _ _); k_dflt (refine' Does.use (c_compare _ _ _ _ _ _ ?ha ?hb ?hc ?hd ?he) ?k1 ?k2 ?k3 ?k4 ?k5 ?kK ?kd ?ku ?_; (case k1 => k_asm); (case k2 => k_asm); (case k3 => k_asm); (case k4 => k_asm); (case k5 => k_asm); (case kK => first | exact rfl | assumption); (case kd => ktr_room); (case ku => ktr_units); (case ha => (walk_at "NTn")); (case hb => (walk_at "NTn")); (case hc => (walk_at "NTa")); (case hd => (walk_at "NTo")); (case he => (walk_at "NTo")); intro r9 tl9 h9 tk9 F9 N9 ho9; obtain ⟨u9, e9⟩ := ho9; subst e9; (try dsimp only); (try k_fold)))
  k_with "NT call ref" => (k_here; (with_reducible show wpAny _ _ (PySem.call (Value.ref 394) _ _) _ _ _); k_dflt (refine' Does.use (c_samenum _ _ _ _ _ _ ?ha ?hb ?hc ?hd) ?k1 ?k2 ?k3 ?k4 ?k5 ?kK ?kd ?ku ?_; (case k1 => k_asm); (case k2 => k_asm); (case k3 => k_asm); (case k4 => k_asm); (case k5 => k_asm); (case kK => first | exact rfl | assumption); (case kd => ktr_room); (case ku => ktr_units); (case ha => (walk_at "NTn")); (case hb => (walk_at "NTn")); (case hc => (walk_at "NTo")); (case hd => (walk_at "NTo")); intro r9 tl9 h9 tk9 F9 N9 ho9; (have e9 : _ = _ := ho9); clear ho9; subst e9; (try dsimp only); (try k_fold)))
  k_with "NT call ref" => (k_here; (with_reducible show wpAny _ _ (PySem.call (Value.ref 373) _ _) _ _ _); k_dflt (refine' Does.use (c_hasinexact _ _ _ _ _ _ ?hl ?ha ?hb) ?k1 ?k2 ?k3 ?k4 ?k5 ?kK ?kd ?ku ?_; (case k1 => k_asm); (case k2 => k_asm); (case k3 => k_asm); (case k4 => k_asm); (case k5 => k_asm); (case kK => first | exact rfl | assumption); (case kd => ktr_room); (case ku => ktr_units); (case hl => walk_at "NTm"); (case ha => (walk_at "NTn")); (case hb => (walk_at "NTn")); intro r9 tl9 h9 tk9 F9 N9 ho9; (have e9 : _ = _ := ho9); clear ho9; subst e9; (try dsimp only); (try k_fold)))
  k_with "NT call ref" => (k_here; (with_reducible show wpAny _ _ (PySem.call (Value.ref 380) _ _) _ _ _); k_dflt (refine' Does.use (c_asof _ _ _ _ _ _ _ _ _ _ ?hl ?ha ?hb ?hc ?hd ?he ?hf) ?k1 ?k2 ?k3 ?k4 ?k5 ?kK ?kd ?ku ?_; (case k1 => k_asm); (case k2 => k_asm); (case k3 => k_asm); (case k4 => k_asm); (case k5 => k_asm); (case kK => first | exact rfl | assumption); (case kd => ktr_room); (case ku => ktr_units); (case hl => walk_at "NTm"); (case ha => (walk_at "NTn")); (case hb => (walk_at "NTn")); (case hc => (walk_at "NTn")); (case hd => (walk_at "NTa")); (case he => (walk_at "NTa")); (case hf => (walk_at "NTo")); intro r9 tl9 h9 tk9 F9 N9 ho9; obtain ⟨z9, hz9, hk9⟩ := ho9; (try dsimp only); (try k_fold)))
  k_with "NT call ref" => (k_here; (with_reducible show wpAny _ _ (PySem.call (Value.ref 583) _ _) _ _ _); k_dflt (refine' Does.use (c_greatest _ _ _ _ _ _ _ _ ?ht ?hl ?ha ?hb ?hc ?hd ?he ?hf) ?k1 ?k2 ?k3 ?k4 ?k5 ?kK ?kd ?ku ?_; (case k1 => k_asm); (case k2 => k_asm); (case k3 => k_asm); (case k4 => k_asm); (case k5 => k_asm); (case kK => first | exact rfl | assumption); (case kd => ktr_room); (case ku => ktr_units); (case ht => walk_at "NTt"); (case hl => walk_at "NTm"); (case ha => (walk_at "NTn")); (case hb => (walk_at "NTn")); (case hc => (walk_at "NTa")); (case hd => (walk_at "NTa")); (case he => (walk_at "NTo")); (case hf => (walk_at "NTo")); intro r9 tl9 h9 tk9 F9 N9 ho9; obtain ⟨z9, hz9, hk9⟩ := ho9; (try dsimp only); (try k_fold)))
  k_with "NT call ref" => (k_here; (with_reducible show wpAny _ _ (PySem.call (Value.ref 590) _ _) _ _ _); k_dflt (refine' Does.use (c_least _ _ _ _ _ _ _ _ ?ht ?hl ?ha ?hb ?hc ?hd ?he ?hf) ?k1 ?k2 ?k3 ?k4 ?k5 ?kK ?kd ?ku ?_; (case k1 => k_asm); (case k2 => k_asm); (case k3 => k_asm); (case k4 => k_asm); (case k5 => k_asm); (case kK => first | exact rfl | assumption); (case kd => ktr_room); (case ku => ktr_units); (case ht => walk_at "NTt"); (case hl => walk_at "NTm"); (case ha => (walk_at "NTn")); (case hb => (walk_at "NTn")); (case hc => (walk_at "NTa")); (case hd => (walk_at "NTa")); (case he => (walk_at "NTo")); (case hf => (walk_at "NTo")); intro r9 tl9 h9 tk9 F9 N9 ho9; obtain ⟨z9, hz9, hk9⟩ := ho9; (try dsimp only); (try k_fold)))
  k_with "NT call ref" => (k_here; (with_reducible show wpAny _ _ (PySem.call (Value.ref 716) _ _) _ _ _); k_dflt (refine' Does.use (c_lfrac _ _ _ _ ?ha ?hb ?hc) ?k1 ?k2 ?k3 ?k4 ?k5 ?kK ?kd ?ku ?_; (case k1 => k_asm); (case k2 => k_asm); (case k3 => k_asm); (case k4 => k_asm); (case k5 => k_asm); (case kK => first | exact rfl | assumption); (case kd => ktr_room); (case ku => ktr_units); (case ha => (walk_at "NTn")); (case hb => (walk_at "NTa")); (case hc => (walk_at "NTo")); intro r9 tl9 h9 tk9 F9 N9 ho9; obtain ⟨a9, s9, q9, u9, w9, e9, hm9, hp9, hq9⟩ := ho9; subst e9; subst hp9; subst hq9; (try dsimp only); (try k_fold)))
  k_with "NT call ref" => (k_here; (with_reducible show wpAny _ _ (PySem.call (Value.ref 737) _ _) _ _ _); k_dflt (refine' Does.use (c_lless _ _ _ _ _ _ ?ha ?hb ?hc ?hd ?he) ?k1 ?k2 ?k3 ?k4 ?k5 ?kK ?kd ?ku ?_; (case k1 => k_asm); (case k2 => k_asm); (case k3 => k_asm); (case k4 => k_asm); (case k5 => k_asm); (case kK => first | exact rfl | assumption); (case kd => ktr_room); (case ku => ktr_units); (case ha => (walk_at "NTn")); (case hb => (walk_at "NTn")); (case hc => (walk_at "NTa")); (case hd => (walk_at "NTo")); (case he => (walk_at "NTo")); intro r9 tl9 h9 tk9 F9 N9 ho9; obtain ⟨u9, e9⟩ := ho9; subst e9; (try dsimp only); (try k_fold)))
  k_with "NT call ref" => (k_here; (with_reducible show wpAny _ _ (PySem.call (Value.ref 723) _ _) _ _ _); k_dflt (refine' Does.use (c_lshownR _ _ _ _ ?ha) ?k1 ?k2 ?k3 ?k4 ?k5 ?kK ?kd ?ku ?_; (case k1 => k_asm); (case k2 => k_asm); (case k3 => k_asm); (case k4 => k_asm); (case k5 => k_asm); (case kK => first | exact rfl | assumption); (case kd => ktr_room); (case ku => ktr_units); (case ha => (walk_at "NTn")); intro r9 tl9 h9 tk9 F9 N9 ho9; obtain ⟨a9, u9, v9, w9, e9, hm9⟩ := ho9; subst e9; (try dsimp only); (try k_fold)))
  k_with "NT call ref" => (k_here; (with_reducible show wpAny _ _ (PySem.call (Value.ref 723) _ _) _ _ _); k_dflt (refine' Does.use (c_lshownE _ _ _ ?ha ?hb) ?k1 ?k2 ?k3 ?k4 ?k5 ?kK ?kd ?ku ?_; (case k1 => k_asm); (case k2 => k_asm); (case k3 => k_asm); (case k4 => k_asm); (case k5 => k_asm); (case kK => first | exact rfl | assumption); (case kd => ktr_room); (case ku => ktr_units); (case ha => (walk_at "NTn")); (case hb => first | assumption | exact ex_isReal _ | rfl); intro r9 tl9 h9 tk9 F9 N9 ho9; obtain ⟨a9, u9, v9, w9, e9, hm9⟩ := ho9; subst e9; (try dsimp only); (try k_fold)))
  rename NumIn _ _ _ => hN
  exact ret_all hret (by assumption) (by assumption) (by ktd_sub) ⟨_, _, hN.mono (by ktd_sub), twos_end (by assumption) (by assumption)⟩
theorem laid_NTW11_5 : True := by
  k_with "NT call ref" => (k_here; (with_reducible show wpAny _ _ (PySem.call (Value.ref 709) _ _) _ _ _); k_dflt (refine' Does.use (c_lreal _ _ _ _ _) ?k1 ?k2 ?k3 ?k4 ?k5 ?kK ?kd ?ku ?_; (case k1 => k_asm); (case k2 => k_asm); (case k3 => k_asm); (case k4 => k_asm); (case k5 => k_asm); (case kK => first | exact rfl | assumption); (case kd => ktr_room); (case ku => ktr_units);  intro r9 tl9 h9 tk9 F9 N9 ho9; obtain ⟨m9, e9, hm9, hn9⟩ := ho9; (try dsimp only); (try k_fold)))
  trivial
end
section
theorem laid_NTW12_1 : True := by
  k_with "NT binaryOp FloorDiv int int" => (refine floordiv_int ?kb1 ?_ (Or.inl (noPylong_mid ?kb2 ?kb3)); (case kb1 => walk_at "NTa"); (case kb2 => walk_at "NTa"); (case kb3 => walk_at "NTa"))
  trivial
/-- a mark in the context: here the walk halts -/
inductive Mark : Prop where
  | mk
theorem Mark.halt {P : Prop} (_ : Mark) (h : Halt P) : P := h
theorem laid_NTW12_2 : True := by
  k_with "NT exec If" => refine NT.Mark.halt (by with_reducible assumption) ?_
  trivial
theorem laid_NTW12_3 : True := by
  k_with "NT CutPost" => refine NT.Halt.out ?_
  trivial
/-- the quotient rounded -/
def RneOf {p t0 b0 U V top bottom shift : Int} (_ : NearInv2 p t0 b0 U V top bottom shift) (r : Value) : Prop := ∃ z u, r = .int z u ∧ IsRne top bottom z ∧ 0 < z
set_option maxRecDepth 100000 in
set_option maxHeartbeats 16000000 in
theorem c_lnear {w : World} {mean mg mb} (news : List (Addr × Obj)) (p t b : Int) (t1 t2 t3 : Tok) (hp1 : 2 ≤ p) (hp2 : p ≤ 8) (ht1 : -16777216 ≤ t) (ht2 : t ≤ 16777216) (hb1 : 1 ≤ b) (hb2 : b ≤ 2097152) :
    Does w mean mg mb 702 3 [.int p t1, .int t t2, .int b t3] news (fun tl r => ∃ a m e u1 u2, r = .ref a ∧ (a, tupOf [.int m u1, .int e u2]) ∈ tl ∧ NearSpec p t b m e) := by
  have f4 := full_ge hp1
  have f256 := full_le hp2
  have h128 := half_le hp2
  have hpos := pow_posI (p - 1).toNat
  by_cases h0 : t = 0
  · subst h0
    unfold Does
    k_fill
    intro dp un gd cn cs aF ccd cl outer A₀ base h₀ L mF s Q E B F X N T hK9 hD9 hU9 hret
    refine wpAny_call ?_
    k_dflt (refine' code_def (binds := [(Str.ofString "bits", .int p t1), (Str.ofString "top", .int 0 t2), (Str.ofString "bottom", .int b t3)]) ?k1 ?k2 ?k3 ?k4 ?k5 ?kA ?kF ?kK ?k6 ?k7 ?k8 ?k9 ?kB ?_ ?c2 ?c3 ?c4 ?c5; (case kA => exact rfl); (case kF => exact rfl); (case kK => assumption); (case k1 => k_asm); (case k2 => k_asm); (case k3 => k_asm); (case k4 => k_asm); (case k5 => k_asm); (case k6 => k_is); (case k7 => k_is); (case k8 => ktr_room); (case k9 => exact BindsTo.of_eq rfl); (case c5 => decide); (case kB => exact locs rfl); (case c2 => exact rfl); (case c3 => exact rfl); (case c4 => exact rfl); k_whole; intro g' L' h' FG' F' N' B' X' T'; (try dsimp only); (try k_fold))
  
    k_steps
    refine' ret_all hret (by assumption) (by assumption) (by ktd_sub) ⟨_, _, _, _, _, rfl, ?hm, .inl ⟨rfl, rfl, rfl⟩⟩
    case hm => k_mem
  have hb0 : 0 < b := by omega
  have ht0 : 0 < (t.natAbs : Int) := by omega
  unfold Does
  k_fill
  intro dp un gd cn cs aF ccd cl outer A₀ base h₀ L mF s Q E B F X N T hK9 hD9 hU9 hret
  refine wpAny_call ?_
  k_dflt (refine' code_def (binds := [(Str.ofString "bits", .int p t1), (Str.ofString "top", .int t t2), (Str.ofString "bottom", .int b t3)]) ?k1 ?k2 ?k3 ?k4 ?k5 ?kA ?kF ?kK ?k6 ?k7 ?k8 ?k9 ?kB ?_ ?c2 ?c3 ?c4 ?c5; (case kA => exact rfl); (case kF => exact rfl); (case kK => assumption); (case k1 => k_asm); (case k2 => k_asm); (case k3 => k_asm); (case k4 => k_asm); (case k5 => k_asm); (case k6 => k_is); (case k7 => k_is); (case k8 => ktr_room); (case k9 => exact BindsTo.of_eq rfl); (case c5 => decide); (case kB => exact locs rfl); (case c2 => exact rfl); (case c3 => exact rfl); (case c4 => exact rfl); k_whole; intro g' L' h' FG' F' N' B' X' T'; (try dsimp only); (try k_fold))

  k_with_none
  k_with "NT subscriptTail Name Constant ref int" => (k_here; (with_reducible show wpAny _ _ (subscriptTail _ _ (Value.ref _) (Value.int _ _)) _ _ _); (with_unfolding_all refine' item_litK ?k1 ?k2 ?k3 ?k4 ?_ ?k6; (case k1 => exact News.isList (by k_asm) (by k_mem)); (case k2 => decide); (case k3 => decide); (case k4 => rfl); (case k6 => with_unfolding_all rfl); k_whole))
  k_with "NT call ref" => (k_here; (refine wpAny_call ?_); k_dflt (refine' code_def ?k1 ?k2 ?k3 ?k4 ?k5 ?kA ?kF ?kK ?k6 ?k7 ?k8 ?k9 ?kB ?_ ?c2 ?c3 ?c4 ?c5; (case kA => exact rfl); (case kF => exact rfl); (case kK => first | exact rfl | assumption); (case k1 => k_asm); (case k2 => k_asm); (case k3 => k_asm); (case k4 => k_asm); (case k5 => k_asm); (case k6 => k_is); (case k7 => k_is); (case k8 => ktr_room); (case k9 => exact BindsTo.of_eq rfl); (case c5 => decide); (case kB => exact locs rfl); (case c2 => exact rfl); (case c3 => exact rfl); (case c4 => exact rfl); k_whole; intro g' L' h' FG' F' N' B' X' T'; (try dsimp only); (try k_fold)))
  k_with "NT binaryOp Add ref ref" => (k_here; (with_reducible show wpAny _ _ (binaryOp _ (Value.ref _) (Value.ref _)) _ _ _); k_dflt (refine' kmk_add_lit ?F ?N ?a ?b ?e ?_ ?z; (case F => k_asm); (case N => k_asm); (case a => kmk_list); (case b => kmk_list); (case e => kl_lit); (case z => kl_room)); intro D' h' F' N' l1; (try dsimp only))
  k_with "NT compareOp NotEq ref ref" => (k_here; (with_reducible show wpAny _ _ (compareOp CmpOp.NotEq (Value.ref _) (Value.ref _)) _ _ _); k_dflt ((refine ne_dataH (by ke_read) (by ke_read) (by ke_shaped) (by ke_shaped) (by ktr_units) ?_); ke_norm))
  k_with "NT compareOp Eq ref ref" => (k_here; (with_reducible show wpAny _ _ (compareOp CmpOp.Eq (Value.ref _) (Value.ref _)) _ _ _); k_dflt ((refine eq_dataH (by ke_read) (by ke_read) (by ke_shaped) (by ke_shaped) (by ktr_units) ?_); ke_norm))
  k_with "NT exec For Name Name cons nil" => (k_here; (rename Fr _ _ _ _ => lF'); (with_unfolding_all refine' For_invVF lF' ?k1 ?k2 ?_; (case k1 => exact rfl); (case k2 => exact rfl); k_whole))
  k_with "NT exec For Name List cons nil" => (k_here; (rename Fr _ _ _ _ => lF'); (with_unfolding_all refine' For_invVF lF' ?k1 ?k2 ?_; (case k1 => exact rfl); (case k2 => exact rfl); k_whole))
  k_with "NT exec For Name Subscript cons nil" => (k_here; (rename Fr _ _ _ _ => lF'); (with_unfolding_all refine' For_invVF lF' ?k1 ?k2 ?_; (case k1 => exact rfl); (case k2 => exact rfl); k_whole))
  k_with "NT pyIter ref" => (k_here; (with_unfolding_all refine' iter_listUnr ?k0 ?k1 ?k2 ?k3 ?k4 ?k5 ?_; (case k0 => exact rfl); (case k1 => k_asm); (case k2 => k_asm); (case k3 => k_mem); (case k4 => exact rfl); (case k5 => exact rfl); k_whole); intro i9 l9)
  k_with "NT UnrEnd" => (refine UnrEnd.intro (by assumption) (by assumption) _ ?ks (offOf (by assumption)) ⟨?km, ?_⟩; (case ks => ktd_sub); (case km => k_mem))
  k_with "NT ite" => (k_openite; k_dflt (first | (refine ite_pos ?kc ?_; (case kc => first | omega | (simp only [decide_eq_true_eq, decide_eq_false_iff_not, beq_iff_eq, bne_iff_ne, ne_eq, Bool.not_eq_true', Bool.not_eq_false', Bool.and_eq_true, Bool.and_eq_false_iff, Bool.or_eq_true, Bool.not_not]; done) | ((simp only [decide_eq_true_eq, decide_eq_false_iff_not, beq_iff_eq, bne_iff_ne, ne_eq, Bool.not_eq_true', Bool.not_eq_false', Bool.and_eq_true, Bool.and_eq_false_iff, Bool.or_eq_true, Bool.not_not]); omega) | (simp; done))) | (refine ite_neg ?kc ?_; (case kc => first | omega | (simp only [decide_eq_true_eq, decide_eq_false_iff_not, beq_iff_eq, bne_iff_ne, ne_eq, Bool.not_eq_true', Bool.not_eq_false', Bool.and_eq_true, Bool.and_eq_false_iff, Bool.or_eq_true, Bool.not_not]; done) | ((simp only [decide_eq_true_eq, decide_eq_false_iff_not, beq_iff_eq, bne_iff_ne, ne_eq, Bool.not_eq_true', Bool.not_eq_false', Bool.and_eq_true, Bool.and_eq_false_iff, Bool.or_eq_true, Bool.not_not]); omega) | (simp; done)))))
  k_with "NT NTn" => first | assumption | exact NumIn.whole | exact NumIn.mono (by assumption) (by ktd_sub) | exact NumIn.real (by k_mem) (by k_mem) | exact NumIn.ratio (by k_mem) (by k_mem)
  k_with "NT NTt" => first | assumption | exact ⟨_, _, _, _, by k_mem, by k_mem⟩
  k_with "NT NTm" => first | assumption | ktr_member | k_mem
  k_with "NT NTo" => assumption
  k_with "NT NTa" => first | assumption | omega | decide
  k_with "NT binaryOp LShift int int" => (refine lshift_int_small ?kb1 ?kb2 ?kb3 ?_; (case kb1 => walk_at "NTa"); (case kb2 => walk_at "NTa"); (case kb3 => walk_at "NTa"))
  k_with "NT binaryOp Pow int int" => (refine pow_int_small ?kb1 ?kb2 ?kb3 ?_; (case kb1 => walk_at "NTa"); (case kb2 => walk_at "NTa"); (case kb3 => walk_at "NTa"))
  k_with "NT binaryOp RShift int int" => (refine rshift_int ?kb1 ?_; (case kb1 => walk_at "NTa"))
  k_with "NT binaryOp FloorDiv int int" => (refine floordiv_int ?kb1 ?_ (Or.inl (PyProof.noPylong_small ?kb2)); (case kb1 => walk_at "NTa"); (case kb2 => walk_at "NTa"))
  k_with "NT binaryOp Mult int int" => (refine mul_int ?_ ?kb1; rotate_left; (case kb1 => first | exact mulSignOk _ _ | exact IntMulOk.of_left (intBits_le_64 (by walk_at "NTa") (by walk_at "NTa")) | exact IntMulOk.of_right (intBits_le_64 (by walk_at "NTa") (by walk_at "NTa"))))
  k_with "NT call ref" => (k_here; (with_reducible show wpAny _ _ (PySem.call (Value.ref 695) _ _) _ _ _); k_dflt (refine' Does.use (c_low _ _ _ _ _ ?ha ?hb) ?k1 ?k2 ?k3 ?k4 ?k5 ?kK ?kd ?ku ?_; (case k1 => k_asm); (case k2 => k_asm); (case k3 => k_asm); (case k4 => k_asm); (case k5 => k_asm); (case kK => first | exact rfl | assumption); (case kd => ktr_room); (case ku => ktr_units); (case ha => omega); (case hb => omega); intro r9 tl9 h9 tk9 F9 N9 ho9; obtain ⟨a9, p9, q9, u9, v9, e9, hm9, hp9, hq9⟩ := ho9; subst e9; subst hp9; subst hq9; (try dsimp only); (try k_fold)))
  k_with "NT call ref" => (k_here; (with_reducible show wpAny _ _ (PySem.call (Value.ref 96) _ _) _ _ _); k_dflt (refine' Does.use (c_Real _ _ _ _ _) ?k1 ?k2 ?k3 ?k4 ?k5 ?kK ?kd ?ku ?_; (case k1 => k_asm); (case k2 => k_asm); (case k3 => k_asm); (case k4 => k_asm); (case k5 => k_asm); (case kK => first | exact rfl | assumption); (case kd => ktr_room); (case ku => ktr_units);  intro r9 tl9 h9 tk9 F9 N9 ho9; (try dsimp only); (try k_fold)))
  k_with "NT call ref" => (k_here; (with_reducible show wpAny _ _ (PySem.call (Value.ref 264) _ _) _ _ _); k_dflt (refine' Does.use (c_Ratio _ _ _ _ _) ?k1 ?k2 ?k3 ?k4 ?k5 ?kK ?kd ?ku ?_; (case k1 => k_asm); (case k2 => k_asm); (case k3 => k_asm); (case k4 => k_asm); (case k5 => k_asm); (case kK => first | exact rfl | assumption); (case kd => ktr_room); (case ku => ktr_units);  intro r9 tl9 h9 tk9 F9 N9 ho9; (try dsimp only); (try k_fold)))
  k_with "NT call ref" => (k_here; (with_reducible show wpAny _ _ (PySem.call (Value.ref 107) _ _) _ _ _); k_dflt (refine' Does.use (c_size _ _ _) ?k1 ?k2 ?k3 ?k4 ?k5 ?kK ?kd ?ku ?_; (case k1 => k_asm); (case k2 => k_asm); (case k3 => k_asm); (case k4 => k_asm); (case k5 => k_asm); (case kK => first | exact rfl | assumption); (case kd => ktr_room); (case ku => ktr_units);  intro r9 tl9 h9 tk9 F9 N9 ho9; obtain ⟨u9, e9⟩ := ho9; subst e9; (try dsimp only); (try k_fold)))
  k_with "NT call ref" => (k_here; (with_reducible show wpAny _ _ (PySem.call (Value.ref 114) _ _) _ _ _); k_dflt (refine' Does.use (c_sow _ _ _) ?k1 ?k2 ?k3 ?k4 ?k5 ?kK ?kd ?ku ?_; (case k1 => k_asm); (case k2 => k_asm); (case k3 => k_asm); (case k4 => k_asm); (case k5 => k_asm); (case kK => first | exact rfl | assumption); (case kd => ktr_room); (case ku => ktr_units);  intro r9 tl9 h9 tk9 F9 N9 ho9; obtain ⟨u9, e9⟩ := ho9; subst e9; (try dsimp only); (try k_fold)))
  k_with "NT call ref" => (k_here; (with_reducible show wpAny _ _ (PySem.call (Value.ref 121) _ _) _ _ _); k_dflt (refine' Does.use (c_zeros _ _ _ _ _ ?ha) ?k1 ?k2 ?k3 ?k4 ?k5 ?kK ?kd ?ku ?_; (case k1 => k_asm); (case k2 => k_asm); (case k3 => k_asm); (case k4 => k_asm); (case k5 => k_asm); (case kK => first | exact rfl | assumption); (case kd => ktr_room); (case ku => ktr_units); (case ha => assumption); intro r9 tl9 h9 tk9 F9 N9 ho9; obtain ⟨u9, e9⟩ := ho9; subst e9; (try dsimp only); (try k_fold)))
  k_with "NT call ref" => (k_here; (with_reducible show wpAny _ _ (PySem.call (Value.ref 128) _ _) _ _ _); k_dflt (refine' Does.use (c_lean _ _ _ _ _ ?ha ?ha2 ?hb ?hc) ?k1 ?k2 ?k3 ?k4 ?k5 ?kK ?kd ?ku ?_; (case k1 => k_asm); (case k2 => k_asm); (case k3 => k_asm); (case k4 => k_asm); (case k5 => k_asm); (case kK => first | exact rfl | assumption); (case kd => ktr_room); (case ku => ktr_units); (case ha => first | (walk_at "NTa") | exact (signMul (by omega) (by omega)).1); (case ha2 => first | (walk_at "NTa") | exact (signMul (by omega) (by omega)).2); (case hb => (walk_at "NTa")); (case hc => (walk_at "NTa")); intro r9 tl9 h9 tk9 F9 N9 ho9; obtain ⟨m9, e9, hm9, hn9⟩ := ho9; (try dsimp only); (try k_fold)))
  k_with "NT call ref" => (k_here; (with_reducible show wpAny _ _ (PySem.call (Value.ref 135) _ _) _ _ _); k_dflt (refine' Does.use (c_nshift _ _ _ _ _ ?ha ?hb ?hc) ?k1 ?k2 ?k3 ?k4 ?k5 ?kK ?kd ?ku ?_; (case k1 => k_asm); (case k2 => k_asm); (case k3 => k_asm); (case k4 => k_asm); (case k5 => k_asm); (case kK => first | exact rfl | assumption); (case kd => ktr_room); (case ku => ktr_units); (case ha => (walk_at "NTa")); (case hb => (walk_at "NTa")); (case hc => (walk_at "NTa")); intro r9 tl9 h9 tk9 F9 N9 ho9; obtain ⟨R9, u9, e9, hR9, hlo9, hhi9⟩ := ho9; subst e9; (try dsimp only); (try k_fold)))
  k_with "NT call ref" => (k_here; (with_reducible show wpAny _ _ (PySem.call (Value.ref 149) _ _) _ _ _); k_dflt (refine' Does.use (c_sticky _ _ _ _ ?ha ?hb) ?k1 ?k2 ?k3 ?k4 ?k5 ?kK ?kd ?ku ?_; (case k1 => k_asm); (case k2 => k_asm); (case k3 => k_asm); (case k4 => k_asm); (case k5 => k_asm); (case kK => first | exact rfl | assumption); (case kd => ktr_room); (case ku => ktr_units); (case ha => (walk_at "NTa")); (case hb => (walk_at "NTa")); intro r9 tl9 h9 tk9 F9 N9 ho9; obtain ⟨u9, e9⟩ := ho9; subst e9; (try dsimp only); (try k_fold)))
  k_with "NT call ref" => (k_here; (with_reducible show wpAny _ _ (PySem.call (Value.ref 142) _ _) _ _ _); k_dflt (refine' Does.use (c_sround _ _ _ _ _ _ _ ?ha ?hb ?hc ?hd ?he ?hf) ?k1 ?k2 ?k3 ?k4 ?k5 ?kK ?kd ?ku ?_; (case k1 => k_asm); (case k2 => k_asm); (case k3 => k_asm); (case k4 => k_asm); (case k5 => k_asm); (case kK => first | exact rfl | assumption); (case kd => ktr_room); (case ku => ktr_units); (case ha => (walk_at "NTa")); (case hb => (walk_at "NTa")); (case hc => (walk_at "NTa")); (case hd => (walk_at "NTa")); (case he => (walk_at "NTa")); (case hf => (walk_at "NTa")); intro r9 tl9 h9 tk9 F9 N9 ho9; obtain ⟨R9, m9, e9, hm9, hR9, hn9⟩ := ho9; (try dsimp only); (try k_fold)))
  k_with "NT call ref" => (k_here; (with_reducible show wpAny _ _ (PySem.call (Value.ref 156) _ _) _ _ _); k_dflt (refine' Does.use (c_rounded _ _ _ _ _ _ _ ?ha ?hb ?hc ?hd ?he ?hf) ?k1 ?k2 ?k3 ?k4 ?k5 ?kK ?kd ?ku ?_; (case k1 => k_asm); (case k2 => k_asm); (case k3 => k_asm); (case k4 => k_asm); (case k5 => k_asm); (case kK => first | exact rfl | assumption); (case kd => ktr_room); (case ku => ktr_units); (case ha => (walk_at "NTa")); (case hb => (walk_at "NTa")); (case hc => (walk_at "NTa")); (case hd => (walk_at "NTa")); (case he => (walk_at "NTa")); (case hf => (walk_at "NTa")); intro r9 tl9 h9 tk9 F9 N9 ho9; obtain ⟨m9, e9, hm9, hs9⟩ := ho9; (try dsimp only); (try k_fold)))
  k_with "NT call ref" => (k_here; (with_reducible show wpAny _ _ (PySem.call (Value.ref 163) _ _) _ _ _); k_dflt (refine' Does.use (c_exparts _ _ _ _ ?ha ?hb ?hc ?hd ?he) ?k1 ?k2 ?k3 ?k4 ?k5 ?kK ?kd ?ku ?_; (case k1 => k_asm); (case k2 => k_asm); (case k3 => k_asm); (case k4 => k_asm); (case k5 => k_asm); (case kK => first | exact rfl | assumption); (case kd => ktr_room); (case ku => ktr_units); (case ha => (walk_at "NTn")); (case hb => (walk_at "NTa")); (case hc => (walk_at "NTa")); (case hd => (walk_at "NTa")); (case he => (walk_at "NTa")); intro r9 tl9 h9 tk9 F9 N9 ho9; obtain ⟨a9, p9, q9, u9, v9, e9, hm9, hp9, hq9⟩ := ho9; subst e9; subst hp9; subst hq9; (try dsimp only); (try k_fold)))
  k_with "NT call ref" => (k_here; (with_reducible show wpAny _ _ (PySem.call (Value.ref 170) _ _) _ _ _); k_dflt (refine' Does.use (c_place _ _ _ _ ?ha) ?k1 ?k2 ?k3 ?k4 ?k5 ?kK ?kd ?ku ?_; (case k1 => k_asm); (case k2 => k_asm); (case k3 => k_asm); (case k4 => k_asm); (case k5 => k_asm); (case kK => first | exact rfl | assumption); (case kd => ktr_room); (case ku => ktr_units); (case ha => (walk_at "NTn")); intro r9 tl9 h9 tk9 F9 N9 ho9; obtain ⟨u9, e9⟩ := ho9; subst e9; (try dsimp only); (try k_fold)))
  k_with "NT call ref" => (k_here; (with_reducible show wpAny _ _ (PySem.call (Value.ref 177) _ _) _ _ _); k_dflt (refine' Does.use (c_signof _ _ _ _ ?ha) ?k1 ?k2 ?k3 ?k4 ?k5 ?kK ?kd ?ku ?_; (case k1 => k_asm); (case k2 => k_asm); (case k3 => k_asm); (case k4 => k_asm); (case k5 => k_asm); (case kK => first | exact rfl | assumption); (case kd => ktr_room); (case ku => ktr_units); (case ha => (walk_at "NTn")); intro r9 tl9 h9 tk9 F9 N9 ho9; obtain ⟨u9, e9⟩ := ho9; subst e9; (try dsimp only); (try k_fold)))
  k_with "NT call ref" => (k_here; (with_reducible show wpAny _ _ (PySem.call (Value.ref 184) _ _) _ _ _); k_dflt (refine' Does.use (c_negative _ _ _ _ ?ha) ?k1 ?k2 ?k3 ?k4 ?k5 ?kK ?kd ?ku ?_; (case k1 => k_asm); (case k2 => k_asm); (case k3 => k_asm); (case k4 => k_asm); (case k5 => k_asm); (case kK => first | exact rfl | assumption); (case kd => ktr_room); (case ku => ktr_units); (case ha => (walk_at "NTn")); intro r9 tl9 h9 tk9 F9 N9 ho9; (try dsimp only); (try k_fold)))
  k_with "NT call ref" => (k_here; (with_reducible show wpAny _ _ (PySem.call (Value.ref 191) _ _) _ _ _); k_dflt (refine' Does.use (c_magnitude _ _ _ _ ?ha) ?k1 ?k2 ?k3 ?k4 ?k5 ?kK ?kd ?ku ?_; (case k1 => k_asm); (case k2 => k_asm); (case k3 => k_asm); (case k4 => k_asm); (case k5 => k_asm); (case kK => first | exact rfl | assumption); (case kd => ktr_room); (case ku => ktr_units); (case ha => (walk_at "NTn")); intro r9 tl9 h9 tk9 F9 N9 ho9; (try dsimp only); (try k_fold)))
  k_with "NT call ref" => (k_here; (with_reducible show wpAny _ _ (PySem.call (Value.ref 198) _ _) _ _ _); k_dflt (refine' Does.use (c_same _ _ _ _ _ _ _ ?ha ?hb) ?k1 ?k2 ?k3 ?k4 ?k5 ?kK ?kd ?ku ?_; (case k1 => k_asm); (case k2 => k_asm); (case k3 => k_asm); (case k4 => k_asm); (case k5 => k_asm); (case kK => first | exact rfl | assumption); (case kd => ktr_room); (case ku => ktr_units); (case ha => (walk_at "NTn")); (case hb => (walk_at "NTn")); intro r9 tl9 h9 tk9 F9 N9 ho9; (have e9 : _ = _ := ho9); clear ho9; subst e9; (try dsimp only); (try k_fold)))
  k_with "NT call ref" => (k_here; (with_reducible show wpAny _ _ (PySem.call (Value.ref 205) _ _) _ _ _); k_dflt (refine' Does.use (c_cmpmag _ _ _ _ _ _ _ ?ha ?hb ?hc ?hd ?he ?hf ?hg ?hh ?hi ?hj) ?k1 ?k2 ?k3 ?k4 ?k5 ?kK ?kd ?ku ?_; (case k1 => k_asm); (case k2 => k_asm); (case k3 => k_asm); (case k4 => k_asm); (case k5 => k_asm); (case kK => first | exact rfl | assumption); (case kd => ktr_room); (case ku => ktr_units); (case ha => (walk_at "NTn")); (case hb => (walk_at "NTn")); (case hc => (walk_at "NTa")); (case hd => (walk_at "NTa")); (case he => (walk_at "NTa")); (case hf => (walk_at "NTa")); (case hg => (walk_at "NTa")); (case hh => (walk_at "NTa")); (case hi => (walk_at "NTa")); (case hj => (walk_at "NTa")); intro r9 tl9 h9 tk9 F9 N9 ho9; obtain ⟨u9, e9⟩ := ho9; subst e9; (try dsimp only); (try k_fold)))
  k_with "NT call ref" => (k_here; (with_reducible show wpAny _ _ (PySem.call (Value.ref 212) _ _) _ _ _); k_dflt (refine' Does.use (c_cmpreals _ _ _ _ _ _ _ ?ha ?hb ?hc ?hd ?he ?hf ?hg ?hh ?hi ?hj) ?k1 ?k2 ?k3 ?k4 ?k5 ?kK ?kd ?ku ?_; (case k1 => k_asm); (case k2 => k_asm); (case k3 => k_asm); (case k4 => k_asm); (case k5 => k_asm); (case kK => first | exact rfl | assumption); (case kd => ktr_room); (case ku => ktr_units); (case ha => (walk_at "NTn")); (case hb => (walk_at "NTn")); (case hc => (walk_at "NTa")); (case hd => (walk_at "NTa")); (case he => (walk_at "NTa")); (case hf => (walk_at "NTa")); (case hg => (walk_at "NTa")); (case hh => (walk_at "NTa")); (case hi => (walk_at "NTa")); (case hj => (walk_at "NTa")); intro r9 tl9 h9 tk9 F9 N9 ho9; obtain ⟨u9, e9⟩ := ho9; subst e9; (try dsimp only); (try k_fold)))
  k_with "NT call ref" => (k_here; (with_reducible show wpAny _ _ (PySem.call (Value.ref 219) _ _) _ _ _); k_dflt (refine' Does.use (c_fullm _ _ _ _ _ _ ?ha ?hb ?hc ?hd ?he) ?k1 ?k2 ?k3 ?k4 ?k5 ?kK ?kd ?ku ?_; (case k1 => k_asm); (case k2 => k_asm); (case k3 => k_asm); (case k4 => k_asm); (case k5 => k_asm); (case kK => first | exact rfl | assumption); (case kd => ktr_room); (case ku => ktr_units); (case ha => (walk_at "NTn")); (case hb => (walk_at "NTa")); (case hc => (walk_at "NTa")); (case hd => (walk_at "NTa")); (case he => (walk_at "NTa")); intro r9 tl9 h9 tk9 F9 N9 ho9; obtain ⟨a9, P9, u9, v9, e9, hm9, hP9⟩ := ho9; subst e9; subst hP9; (try dsimp only); (try k_fold)))
  k_with "NT call ref" => (k_here; (with_reducible show wpAny _ _ (PySem.call (Value.ref 226) _ _) _ _ _); k_dflt (refine' Does.use (c_farther _ _ _ _ _ _ ?ha ?hb ?hc ?hd ?he ?hf ?hg ?hh ?hi) ?k1 ?k2 ?k3 ?k4 ?k5 ?kK ?kd ?ku ?_; (case k1 => k_asm); (case k2 => k_asm); (case k3 => k_asm); (case k4 => k_asm); (case k5 => k_asm); (case kK => first | exact rfl | assumption); (case kd => ktr_room); (case ku => ktr_units); (case ha => (walk_at "NTn")); (case hb => (walk_at "NTa")); (case hc => (walk_at "NTa")); (case hd => (walk_at "NTa")); (case he => (walk_at "NTa")); (case hf => (walk_at "NTa")); (case hg => (walk_at "NTa")); (case hh => (walk_at "NTa")); (case hi => (walk_at "NTa")); intro r9 tl9 h9 tk9 F9 N9 ho9; obtain ⟨m9, e9, hm9, hn9⟩ := ho9; (try dsimp only); (try k_fold)))
  k_with "NT call ref" => (k_here; (with_reducible show wpAny _ _ (PySem.call (Value.ref 233) _ _) _ _ _); k_dflt (refine' Does.use (c_nearer _ _ _ _ _ _ ?ha ?hb ?hc ?hd ?he ?hf ?hg ?hh ?hi) ?k1 ?k2 ?k3 ?k4 ?k5 ?kK ?kd ?ku ?_; (case k1 => k_asm); (case k2 => k_asm); (case k3 => k_asm); (case k4 => k_asm); (case k5 => k_asm); (case kK => first | exact rfl | assumption); (case kd => ktr_room); (case ku => ktr_units); (case ha => (walk_at "NTn")); (case hb => (walk_at "NTa")); (case hc => (walk_at "NTa")); (case hd => (walk_at "NTa")); (case he => (walk_at "NTa")); (case hf => (walk_at "NTa")); (case hg => (walk_at "NTa")); (case hh => (walk_at "NTa")); (case hi => (walk_at "NTa")); intro r9 tl9 h9 tk9 F9 N9 ho9; obtain ⟨m9, e9, hm9, hn9⟩ := ho9; (try dsimp only); (try k_fold)))
  k_with "NT call ref" => (k_here; (with_reducible show wpAny _ _ (PySem.call (Value.ref 240) _ _) _ _ _); k_dflt (refine' Does.use (c_above _ _ _ _ _ _ ?ha ?hb ?hc ?hd ?he ?hf ?hg ?hh ?hi) ?k1 ?k2 ?k3 ?k4 ?k5 ?kK ?kd ?ku ?_; (case k1 => k_asm); (case k2 => k_asm); (case k3 => k_asm); (case k4 => k_asm); (case k5 => k_asm); (case kK => first | exact rfl | assumption); (case kd => ktr_room); (case ku => ktr_units); (case ha => (walk_at "NTn")); (case hb => (walk_at "NTa")); (case hc => (walk_at "NTa")); (case hd => (walk_at "NTa")); (case he => (walk_at "NTa")); (case hf => (walk_at "NTa")); (case hg => (walk_at "NTa")); (case hh => (walk_at "NTa")); (case hi => (walk_at "NTa")); intro r9 tl9 h9 tk9 F9 N9 ho9; obtain ⟨m9, e9, hm9, hn9⟩ := ho9; (try dsimp only); (try k_fold)))
  k_with "NT call ref" => (k_here; (with_reducible show wpAny _ _ (PySem.call (Value.ref 247) _ _) _ _ _); k_dflt (refine' Does.use (c_below _ _ _ _ _ _ ?ha ?hb ?hc ?hd ?he ?hf ?hg ?hh ?hi) ?k1 ?k2 ?k3 ?k4 ?k5 ?kK ?kd ?ku ?_; (case k1 => k_asm); (case k2 => k_asm); (case k3 => k_asm); (case k4 => k_asm); (case k5 => k_asm); (case kK => first | exact rfl | assumption); (case kd => ktr_room); (case ku => ktr_units); (case ha => (walk_at "NTn")); (case hb => (walk_at "NTa")); (case hc => (walk_at "NTa")); (case hd => (walk_at "NTa")); (case he => (walk_at "NTa")); (case hf => (walk_at "NTa")); (case hg => (walk_at "NTa")); (case hh => (walk_at "NTa")); (case hi => (walk_at "NTa")); intro r9 tl9 h9 tk9 F9 N9 ho9; obtain ⟨m9, e9, hm9, hn9⟩ := ho9; (try dsimp only); (try k_fold)))
  k_with "NT call builtin:isinstance" => (k_here; (with_reducible show wpAny _ _ (PySem.call (Value.builtin "isinstance") [_, Value.ref 96]) _ _ _); k_dflt (refine' isi_num ?k1 ?k2 ?k3 ?k4 ?k5 ?_; (case k1 => k_asm); (case k2 => k_asm); (case k3 => k_asm); (case k4 => walk_at "NTn"); (case k5 => first | assumption | exact rfl); k_whole; intro tk9; (try dsimp only [Num.isReal])))
  k_with "NT call ref" => (k_here; (with_reducible show wpAny _ _ (PySem.call (Value.ref 345) _ _) _ _ _); k_dflt (refine' Does.use (c_isinexact _ _ _ ?ha) ?k1 ?k2 ?k3 ?k4 ?k5 ?kK ?kd ?ku ?_; (case k1 => k_asm); (case k2 => k_asm); (case k3 => k_asm); (case k4 => k_asm); (case k5 => k_asm); (case kK => first | exact rfl | assumption); (case kd => ktr_room); (case ku => ktr_units); (case ha => (walk_at "NTn")); intro r9 tl9 h9 tk9 F9 N9 ho9; (have e9 : _ = _ := ho9); clear ho9; subst e9; (try dsimp only); (try k_fold)))
  k_with "NT call ref" => (k_here; (with_reducible show wpAny _ _ (PySem.call (Value.ref 282) _ _) _ _ _); k_dflt (refine' Does.use (c_isexact _ _ _ ?ha) ?k1 ?k2 ?k3 ?k4 ?k5 ?kK ?kd ?ku ?_; (case k1 => k_asm); (case k2 => k_asm); (case k3 => k_asm); (case k4 => k_asm); (case k5 => k_asm); (case kK => first | exact rfl | assumption); (case kd => ktr_room); (case ku => ktr_units); (case ha => (walk_at "NTn")); intro r9 tl9 h9 tk9 F9 N9 ho9; (have e9 : _ = _ := ho9); clear ho9; subst e9; (try dsimp only); (try k_fold)))
  k_with "NT call ref" => (k_here; (with_reducible show wpAny _ _ (PySem.call (Value.ref 289) _ _) _ _ _); k_dflt (refine' Does.use (c_topof _ _ _ ?ha ?hb) ?k1 ?k2 ?k3 ?k4 ?k5 ?kK ?kd ?ku ?_; (case k1 => k_asm); (case k2 => k_asm); (case k3 => k_asm); (case k4 => k_asm); (case k5 => k_asm); (case kK => first | exact rfl | assumption); (case kd => ktr_room); (case ku => ktr_units); (case ha => (walk_at "NTn")); (case hb => first | assumption | rfl); intro r9 tl9 h9 tk9 F9 N9 ho9; obtain ⟨u9, e9⟩ := ho9; subst e9; (try dsimp only); (try k_fold)))
  k_with "NT call ref" => (k_here; (with_reducible show wpAny _ _ (PySem.call (Value.ref 296) _ _) _ _ _); k_dflt (refine' Does.use (c_bottomof _ _ _ ?ha ?hb) ?k1 ?k2 ?k3 ?k4 ?k5 ?kK ?kd ?ku ?_; (case k1 => k_asm); (case k2 => k_asm); (case k3 => k_asm); (case k4 => k_asm); (case k5 => k_asm); (case kK => first | exact rfl | assumption); (case kd => ktr_room); (case ku => ktr_units); (case ha => (walk_at "NTn")); (case hb => first | assumption | rfl); intro r9 tl9 h9 tk9 F9 N9 ho9; obtain ⟨u9, e9⟩ := ho9; subst e9; (try dsimp only); (try k_fold)))
  k_with "NT call ref" => (k_here; (with_reducible show wpAny _ _ (PySem.call (Value.ref 177) _ _) _ _ _); k_dflt (refine' Does.use (c_signof' _ _ _ ?ha ?hb) ?k1 ?k2 ?k3 ?k4 ?k5 ?kK ?kd ?ku ?_; (case k1 => k_asm); (case k2 => k_asm); (case k3 => k_asm); (case k4 => k_asm); (case k5 => k_asm); (case kK => first | exact rfl | assumption); (case kd => ktr_room); (case ku => ktr_units); (case ha => (walk_at "NTn")); (case hb => first | assumption | rfl); intro r9 tl9 h9 tk9 F9 N9 ho9; obtain ⟨u9, e9⟩ := ho9; subst e9; (try dsimp only); (try k_fold)))
  k_with "NT call ref" => (k_here; (with_reducible show wpAny _ _ (PySem.call (Value.ref 212) _ _) _ _ _); k_dflt (refine' Does.use (c_cmpreals' _ _ _ _ _ _ ?ha ?hb ?hc ?hd ?he ?hf ?hg) ?k1 ?k2 ?k3 ?k4 ?k5 ?kK ?kd ?ku ?_; (case k1 => k_asm); (case k2 => k_asm); (case k3 => k_asm); (case k4 => k_asm); (case k5 => k_asm); (case kK => first | exact rfl | assumption); (case kd => ktr_room); (case ku => ktr_units); (case ha => (walk_at "NTn")); (case hb => (walk_at "NTn")); (case hc => first | assumption | rfl); (case hd => first | assumption | rfl); (case he => (walk_at "NTa")); (case hf => (walk_at "NTo")); (case hg => (walk_at "NTo")); intro r9 tl9 h9 tk9 F9 N9 ho9; obtain ⟨u9, e9⟩ := ho9; subst e9; (try dsimp only); (try k_fold)))
  k_with "NT call ref" => (k_here; (with_reducible show wpAny _ _ (PySem.call (Value.ref 198) _ _) _ _ _); k_dflt (refine' Does.use (c_same' _ _ _ _ _ _ ?ha ?hb ?hc ?hd ?hf ?hg) ?k1 ?k2 ?k3 ?k4 ?k5 ?kK ?kd ?ku ?_; (case k1 => k_asm); (case k2 => k_asm); (case k3 => k_asm); (case k4 => k_asm); (case k5 => k_asm); (case kK => first | exact rfl | assumption); (case kd => ktr_room); (case ku => ktr_units); (case ha => (walk_at "NTn")); (case hb => (walk_at "NTn")); (case hc => first | assumption | rfl); (case hd => first | assumption | rfl); (case hf => (walk_at "NTo")); (case hg => (walk_at "NTo")); intro r9 tl9 h9 tk9 F9 N9 ho9; (have e9 : _ = _ := ho9); clear ho9; subst e9; (try dsimp only); (try k_fold)))
  k_with "NT call ref" => (k_here; (with_reducible show wpAny _ _ (PySem.call (Value.ref 163) _ _) _ _ _); k_dflt (refine' Does.use (c_exparts' _ _ _ _ ?ha ?hb ?hc ?hd) ?k1 ?k2 ?k3 ?k4 ?k5 ?kK ?kd ?ku ?_; (case k1 => k_asm); (case k2 => k_asm); (case k3 => k_asm); (case k4 => k_asm); (case k5 => k_asm); (case kK => first | exact rfl | assumption); (case kd => ktr_room); (case ku => ktr_units); (case ha => (walk_at "NTn")); (case hb => first | assumption | rfl); (case hc => (walk_at "NTa")); (case hd => (walk_at "NTo")); intro r9 tl9 h9 tk9 F9 N9 ho9; obtain ⟨a9, p9, q9, u9, v9, e9, hm9, hp9, hq9⟩ := ho9; subst e9; subst hp9; subst hq9; (try dsimp only); (try k_fold)))
  k_with "NT call ref" => (k_here; (with_reducible show wpAny _ _ (PySem.call (Value.ref 352) _ _) _ _ _); k_dflt (refine' Does.use (c_sign _ _ _ ?ha) ?k1 ?k2 ?k3 ?k4 ?k5 ?kK ?kd ?ku ?_; (case k1 => k_asm); (case k2 => k_asm); (case k3 => k_asm); (case k4 => k_asm); (case k5 => k_asm); (case kK => first | exact rfl | assumption); (case kd => ktr_room); (case ku => ktr_units); (case ha => (walk_at "NTn")); intro r9 tl9 h9 tk9 F9 N9 ho9; obtain ⟨u9, e9⟩ := ho9; subst e9; (try dsimp only); (try k_fold)))
  k_with "NT call ref" => (k_here; (with_reducible show wpAny _ _ (PySem.call (Value.ref 331) _ _) _ _ _); k_dflt (refine' Does.use (c_cmpexact _ _ _ _ _ ?ha ?hb ?hc ?hd ?he ?hf ?hg ?hh) ?k1 ?k2 ?k3 ?k4 ?k5 ?kK ?kd ?ku ?_; (case k1 => k_asm); (case k2 => k_asm); (case k3 => k_asm); (case k4 => k_asm); (case k5 => k_asm); (case kK => first | exact rfl | assumption); (case kd => ktr_room); (case ku => ktr_units); (case ha => (walk_at "NTn")); (case hb => (walk_at "NTn")); (case hc => first | assumption | rfl | exact ex_isReal _); (case hd => first | assumption | rfl | exact ex_isReal _); (case he => (walk_at "NTa")); (case hf => (walk_at "NTa")); (case hg => (walk_at "NTa")); (case hh => (walk_at "NTa")); intro r9 tl9 h9 tk9 F9 N9 ho9; obtain ⟨u9, e9⟩ := ho9; subst e9; (try dsimp only); (try k_fold)))
  k_with "NT call ref" => (k_here; (with_reducible show wpAny _ _ (PySem.call (Value.ref 338) _ _) _ _ _); k_dflt (refine' Does.use (c_eqexact _ _ _ _ _ _ ?ha ?hb ?hc ?hd ?hf ?hg) ?k1 ?k2 ?k3 ?k4 ?k5 ?kK ?kd ?ku ?_; (case k1 => k_asm); (case k2 => k_asm); (case k3 => k_asm); (case k4 => k_asm); (case k5 => k_asm); (case kK => first | exact rfl | assumption); (case kd => ktr_room); (case ku => ktr_units); (case ha => (walk_at "NTn")); (case hb => (walk_at "NTn")); (case hc => first | assumption | rfl); (case hd => first | assumption | rfl); (case hf => (walk_at "NTo")); (case hg => (walk_at "NTo")); intro r9 tl9 h9 tk9 F9 N9 ho9; (have e9 : _ = _ := ho9); clear ho9; subst e9; (try dsimp only); (try k_fold)))
  k_with "NT call ref" => (k_here; (with_reducible show wpAny _ _ (PySem.call (Value.ref 303) _ _) _ _ _); k_dflt (refine' Does.use (c_gcdof _ _ _ _ _) ?k1 ?k2 ?k3 ?k4 ?k5 ?kK ?kd ?ku ?_; (case k1 => k_asm); (case k2 => k_asm); (case k3 => k_asm); (case k4 => k_asm); (case k5 => k_asm); (case kK => first | exact rfl | assumption); (case kd => ktr_room); (case ku => ktr_units);  intro r9 tl9 h9 tk9 F9 N9 ho9; obtain ⟨u9, e9⟩ := ho9; subst e9; (try dsimp only); (try k_fold)))
  k_with "NT call ref" => (k_here; (with_reducible show wpAny _ _ (PySem.call (Value.ref 317) _ _) _ _ _); k_dflt (refine' Does.use (c_ratioof _ _ _ _ _ ?ha ?hb) ?k1 ?k2 ?k3 ?k4 ?k5 ?kK ?kd ?ku ?_; (case k1 => k_asm); (case k2 => k_asm); (case k3 => k_asm); (case k4 => k_asm); (case k5 => k_asm); (case kK => first | exact rfl | assumption); (case kd => ktr_room); (case ku => ktr_units); (case ha => (walk_at "NTa")); (case hb => (walk_at "NTa")); intro r9 tl9 h9 tk9 F9 N9 ho9; (try dsimp only); (try k_fold)))
  k_with "NT call ref" => (k_here; (with_reducible show wpAny _ _ (PySem.call (Value.ref 359) _ _) _ _ _); k_dflt (refine' Does.use (c_toexact _ _ _ _ ?ha ?hb ?hc) ?k1 ?k2 ?k3 ?k4 ?k5 ?kK ?kd ?ku ?_; (case k1 => k_asm); (case k2 => k_asm); (case k3 => k_asm); (case k4 => k_asm); (case k5 => k_asm); (case kK => first | exact rfl | assumption); (case kd => ktr_room); (case ku => ktr_units); (case ha => (walk_at "NTn")); (case hb => (walk_at "NTa")); (case hc => (walk_at "NTo")); intro r9 tl9 h9 tk9 F9 N9 ho9; (try dsimp only); (try k_fold)))
  k_with "NT call ref" => (k_here; (with_reducible show wpAny _ _ (PySem.call (Value.ref 366) _ _) _ _ _); k_dflt (refine' Does.use (c_toinexact _ _ _ _ _ ?ha ?hb ?hc ?hd) ?k1 ?k2 ?k3 ?k4 ?k5 ?kK ?kd ?ku ?_; (case k1 => k_asm); (case k2 => k_asm); (case k3 => k_asm); (case k4 => k_asm); (case k5 => k_asm); (case kK => first | exact rfl | assumption); (case kd => ktr_room); (case ku => ktr_units); (case ha => (walk_at "NTn")); (case hb => (walk_at "NTa")); (case hc => (walk_at "NTa")); (case hd => (walk_at "NTo")); intro r9 tl9 h9 tk9 F9 N9 ho9; obtain ⟨m9, e9, hm9, hs9, ho9⟩ := ho9; (try dsimp only); (try k_fold)))
  k_with "NT call ref" => (k_here; (with_reducible show wpAny _ _ (PySem.call (Value.ref 387) _ _) _ _ _); k_dflt (refine' Does.use (c_compare _ _ _ _ _ _ ?ha ?hb ?hc ?hd ?he) ?k1 ?k2 ?k3 ?k4 ?k5 ?kK ?kd ?ku ?_; (case k1 => k_asm); (case k2 => k_asm); (case k3 => k_asm); (case k4 => k_asm); (case k5 => k_asm); (case kK => first | exact rfl | assumption); (case kd => ktr_room); (case ku => ktr_units); (case ha => (walk_at "NTn")); (case hb => (walk_at "NTn")); (case hc => (walk_at "NTa")); (case hd => (walk_at "NTo")); (case he => (walk_at "NTo")); intro r9 tl9 h9 tk9 F9 N9 ho9; obtain ⟨u9, e9⟩ := ho9; subst e9; (try dsimp only); (try k_fold)))
  k_with "NT call ref" => (k_here; (with_reducible show wpAny _ _ (PySem.call (Value.ref 394) _ _) _ _ _); k_dflt (refine' Does.use (c_samenum _ _ _ _ _ _ ?ha ?hb ?hc ?hd) ?k1 ?k2 ?k3 ?k4 ?k5 ?kK ?kd ?ku ?_; (case k1 => k_asm); (case k2 => k_asm); (case k3 => k_asm); (case k4 => k_asm); (case k5 => k_asm); (case kK => first | exact rfl | assumption); (case kd => ktr_room); (case ku => ktr_units); (case ha => (walk_at "NTn")); (case hb => (walk_at "NTn")); (case hc => (walk_at "NTo")); (case hd => (walk_at "NTo")); intro r9 tl9 h9 tk9 F9 N9 ho9; (have e9 : _ = _ := ho9); clear ho9; subst e9; (try dsimp only); (try k_fold)))
  k_with "NT call ref" => (k_here; (with_reducible show wpAny _ _ (PySem.call (Value.ref 373) _ _) _ _ _); k_dflt (refine' Does.use (c_hasinexact _ _ _ _ _ _ ?hl ?ha ?hb) ?k1 ?k2 ?k3 ?k4 ?k5 ?kK ?kd ?ku ?_; (case k1 => k_asm); (case k2 => k_asm); (case k3 => k_asm); (case k4 => k_asm); (case k5 => k_asm); (case kK => first | exact rfl | assumption); (case kd => ktr_room); (case ku => ktr_units); (case hl => walk_at "NTm"); (case ha => (walk_at "NTn")); (case hb => (walk_at "NTn")); intro r9 tl9 h9 tk9 F9 N9 ho9; (have e9 : _ = _ := ho9); clear ho9; subst e9; (try dsimp only); (try k_fold)))
  k_with "NT call ref" => (k_here; (with_reducible show wpAny _ _ (PySem.call (Value.ref 380) _ _) _ _ _); k_dflt (refine' Does.use (c_asof _ _ _ _ _ _ _ _ _ _ ?hl ?ha ?hb ?hc ?hd ?he ?hf) ?k1 ?k2 ?k3 ?k4 ?k5 ?kK ?kd ?ku ?_; (case k1 => k_asm); (case k2 => k_asm); (case k3 => k_asm); (case k4 => k_asm); (case k5 => k_asm); (case kK => first | exact rfl | assumption); (case kd => ktr_room); (case ku => ktr_units); (case hl => walk_at "NTm"); (case ha => (walk_at "NTn")); (case hb => (walk_at "NTn")); (case hc => (walk_at "NTn")); (case hd => (walk_at "NTa")); (case he => (walk_at "NTa")); (case hf => (walk_at "NTo")); intro r9 tl9 h9 tk9 F9 N9 ho9; obtain ⟨z9, hz9, hk9⟩ := ho9; (try dsimp only); (try k_fold)))
  k_with "NT call ref" => (k_here; (with_reducible show wpAny _ _ (PySem.call (Value.ref 583) _ _) _ _ _); k_dflt (refine' Does.use (c_greatest _ _ _ _ _ _ _ _ ?ht ?hl ?ha ?hb ?hc ?hd ?he ?hf) ?k1 ?k2 ?k3 ?k4 ?k5 ?kK ?kd ?ku ?_; (case k1 => k_asm); (case k2 => k_asm); (case k3 => k_asm); (case k4 => k_asm); (case k5 => k_asm); (case kK => first | exact rfl | assumption); (case kd => ktr_room); (case ku => ktr_units); (case ht => walk_at "NTt"); (case hl => walk_at "NTm"); (case ha => (walk_at "NTn")); (case hb => (walk_at "NTn")); (case hc => (walk_at "NTa")); (case hd => (walk_at "NTa")); (case he => (walk_at "NTo")); (case hf => (walk_at "NTo")); intro r9 tl9 h9 tk9 F9 N9 ho9; obtain ⟨z9, hz9, hk9⟩ := ho9; (try dsimp only); (try k_fold)))
  k_with "NT call ref" => (k_here; (with_reducible show wpAny _ _ (PySem.call (Value.ref 590) _ _) _ _ _); k_dflt (refine' Does.use (c_least _ _ _ _ _ _ _ _ ?ht ?hl ?ha ?hb ?hc ?hd ?he ?hf) ?k1 ?k2 ?k3 ?k4 ?k5 ?kK ?kd ?ku ?_; (case k1 => k_asm); (case k2 => k_asm); (case k3 => k_asm); (case k4 => k_asm); (case k5 => k_asm); (case kK => first | exact rfl | assumption); (case kd => ktr_room); (case ku => ktr_units); (case ht => walk_at "NTt"); (case hl => walk_at "NTm"); (case ha => (walk_at "NTn")); (case hb => (walk_at "NTn")); (case hc => (walk_at "NTa")); (case hd => (walk_at "NTa")); (case he => (walk_at "NTo")); (case hf => (walk_at "NTo")); intro r9 tl9 h9 tk9 F9 N9 ho9; obtain ⟨z9, hz9, hk9⟩ := ho9; (try dsimp only); (try k_fold)))
  k_with "NT call ref" => (k_here; (with_reducible show wpAny _ _ (PySem.call (Value.ref 716) _ _) _ _ _); k_dflt (refine' Does.use (c_lfrac _ _ _ _ ?ha ?hb ?hc) ?k1 ?k2 ?k3 ?k4 ?k5 ?kK ?kd ?ku ?_; (case k1 => k_asm); (case k2 => k_asm); (case k3 => k_asm); (case k4 => k_asm); (case k5 => k_asm); (case kK => first | exact rfl | assumption); (case kd => ktr_room); (case ku => ktr_units); (case ha => (walk_at "NTn")); (case hb => (walk_at "NTa")); (case hc => (walk_at "NTo")); intro r9 tl9 h9 tk9 F9 N9 ho9; obtain ⟨a9, s9, q9, u9, w9, e9, hm9, hp9, hq9⟩ := ho9; subst e9; subst hp9; subst hq9; (try dsimp only); (try k_fold)))
  k_with "NT call ref" => (k_here; (with_reducible show wpAny _ _ (PySem.call (Value.ref 737) _ _) _ _ _); k_dflt (refine' Does.use (c_lless _ _ _ _ _ _ ?ha ?hb ?hc ?hd ?he) ?k1 ?k2 ?k3 ?k4 ?k5 ?kK ?kd ?ku ?_; (case k1 => k_asm); (case k2 => k_asm); (case k3 => k_asm); (case k4 => k_asm); (case k5 => k_asm); (case kK => first | exact rfl | assumption); (case kd => ktr_room); (case ku => ktr_units); (case ha => (walk_at "NTn")); (case hb => (walk_at "NTn")); (case hc => (walk_at "NTa")); (case hd => (walk_at "NTo")); (case he => (walk_at "NTo")); intro r9 tl9 h9 tk9 F9 N9 ho9; obtain ⟨u9, e9⟩ := ho9; subst e9; (try dsimp only); (try k_fold)))
  k_with "NT call ref" => (k_here; (with_reducible show wpAny _ _ (PySem.call (Value.ref 723) _ _) _ _ _); k_dflt (refine' Does.use (c_lshownR _ _ _ _ ?ha) ?k1 ?k2 ?k3 ?k4 ?k5 ?kK ?kd ?ku ?_; (case k1 => k_asm); (case k2 => k_asm); (case k3 => k_asm); (case k4 => k_asm); (case k5 => k_asm); (case kK => first | exact rfl | assumption); (case kd => ktr_room); (case ku => ktr_units); (case ha => (walk_at "NTn")); intro r9 tl9 h9 tk9 F9 N9 ho9; obtain ⟨a9, u9, v9, w9, e9, hm9⟩ := ho9; subst e9; (try dsimp only); (try k_fold)))
  k_with "NT call ref" => (k_here; (with_reducible show wpAny _ _ (PySem.call (Value.ref 723) _ _) _ _ _); k_dflt (refine' Does.use (c_lshownE _ _ _ ?ha ?hb) ?k1 ?k2 ?k3 ?k4 ?k5 ?kK ?kd ?ku ?_; (case k1 => k_asm); (case k2 => k_asm); (case k3 => k_asm); (case k4 => k_asm); (case k5 => k_asm); (case kK => first | exact rfl | assumption); (case kd => ktr_room); (case ku => ktr_units); (case ha => (walk_at "NTn")); (case hb => first | assumption | exact ex_isReal _ | rfl); intro r9 tl9 h9 tk9 F9 N9 ho9; obtain ⟨a9, u9, v9, w9, e9, hm9⟩ := ho9; subst e9; (try dsimp only); (try k_fold)))
  k_with "NT call ref" => (k_here; (with_reducible show wpAny _ _ (PySem.call (Value.ref 709) _ _) _ _ _); k_dflt (refine' Does.use (c_lreal _ _ _ _ _) ?k1 ?k2 ?k3 ?k4 ?k5 ?kK ?kd ?ku ?_; (case k1 => k_asm); (case k2 => k_asm); (case k3 => k_asm); (case k4 => k_asm); (case k5 => k_asm); (case kK => first | exact rfl | assumption); (case kd => ktr_room); (case ku => ktr_units);  intro r9 tl9 h9 tk9 F9 N9 ho9; obtain ⟨m9, e9, hm9, hn9⟩ := ho9; (try dsimp only); (try k_fold)))
  k_with "NT binaryOp FloorDiv int int" => (refine floordiv_int ?kb1 ?_ (Or.inl (noPylong_mid ?kb2 ?kb3)); (case kb1 => walk_at "NTa"); (case kb2 => walk_at "NTa"); (case kb3 => walk_at "NTa"))
  k_with "NT exec If" => refine NT.Mark.halt (by with_reducible assumption) ?_
  k_with "NT CutPost" => refine NT.Halt.out ?_
  k_with "exec While Compare cons nil" => refine NT.Halt.out ?_
  k_with "state" => first
    | (rw [ite_natAbs]; exact near_start ht0 (by omega) hb0 hb2)
    | exact near_upA (l := 64) hp1 (by assumption) (by assumption) (by decide)
    | exact near_upA (l := 8) hp1 (by assumption) (by assumption) (by decide)
    | exact near_upA (l := 1) hp1 (by assumption) (by assumption) (by decide)
    | exact near_downA (l := 64) hp1 hp2 hb0 hb2 ht0 (by assumption) (by assumption) (by decide) (by decide)
    | exact near_downA (l := 8) hp1 hp2 hb0 hb2 ht0 (by assumption) (by assumption) (by decide) (by decide)
    | exact near_down2A (l := 1) hp1 hp2 hb0 hb2 ht0 (by assumption) (by assumption) (by decide) (by decide)
    | exact NearInv.wide (by assumption) (by decide) (by decide)
    | exact ⟨NearInv.wide (by assumption) (by decide) (by decide), near_exit (by assumption)⟩
  k_with "measure" => first
    | exact meas_upA (l := 64) hp1 (by assumption) (by assumption) (by decide)
    | exact meas_upA (l := 8) hp1 (by assumption) (by assumption) (by decide)
    | exact meas_upA (l := 1) hp1 (by assumption) (by assumption) (by decide)
    | exact meas_downA (l := 64) hp1 hp2 hb0 hb2 ht0 (by assumption) (by assumption) (by decide) (by decide)
    | exact meas_downA (l := 8) hp1 hp2 hb0 hb2 ht0 (by assumption) (by assumption) (by decide) (by decide)
    | exact meas_downA (l := 1) hp1 hp2 hb0 hb2 ht0 (NearInv2.inv (by assumption)) (by assumption) (by decide) (by decide)
  k_steps
  refine Halt.put ?_
  k_while_given ["top"] (fun top _ bottom shift => NearInv (t.natAbs : Int) b 16777216 16777216 top bottom shift) (fun top _ bottom _ => (top - bottom).toNat) "bottom" "shift"
  rename NearInv _ _ _ _ _ _ _ => hI
  have q1 := hI.tp; have q2 := hI.tu; have q3 := hI.bp; have q4 := hI.bu
  k_steps
  refine Halt.put ?_
  k_while_given ["bottom"] (fun bottom _ top shift => NearInv (t.natAbs : Int) b 4294967296 16777216 top bottom shift) (fun bottom _ top _ => (bottom * 2 ^ p.toNat - top).toNat) "top" "shift"
  rename NearInv _ _ _ _ _ _ _ => hI
  have q1 := hI.tp; have q2 := hI.tu; have q3 := hI.bp; have q4 := hI.bu
  k_steps
  refine Halt.put ?_
  k_while_given ["top"] (fun top _ bottom shift => NearInv (t.natAbs : Int) b 4294967296 4294967296 top bottom shift) (fun top _ bottom _ => (top - bottom).toNat) "bottom" "shift"
  rename NearInv _ _ _ _ _ _ _ => hI
  have q1 := hI.tp; have q2 := hI.tu; have q3 := hI.bp; have q4 := hI.bu
  k_steps
  refine Halt.put ?_
  k_while_given ["bottom"] (fun bottom _ top shift => NearInv (t.natAbs : Int) b 1099511627776 4294967296 top bottom shift) (fun bottom _ top _ => (bottom * 2 ^ p.toNat - top).toNat) "top" "shift"
  rename NearInv _ _ _ _ _ _ _ => hI
  have q1 := hI.tp; have q2 := hI.tu; have q3 := hI.bp; have q4 := hI.bu
  k_steps
  refine Halt.put ?_
  k_while_given ["top"] (fun top _ bottom shift => NearInv (t.natAbs : Int) b 1099511627776 1099511627776 top bottom shift) (fun top _ bottom _ => (top - bottom).toNat) "bottom" "shift"
  rename NearInv _ _ _ _ _ _ _ => hI
  have q1 := hI.tp; have q2 := hI.tu; have q3 := hI.bp; have q4 := hI.bu
  k_steps
  refine Halt.put ?_
  k_while_given ["bottom"] (fun bottom _ top shift => NearInv2 p (t.natAbs : Int) b 281474976710656 1099511627776 top bottom shift) (fun bottom _ top _ => (bottom * 2 ^ p.toNat - top).toNat) "top" "shift"
  rename NearInv2 _ _ _ _ _ _ _ _ => hJ
  have hI := hJ.inv
  have q1 := hI.tp; have q2 := hI.tu; have q3 := hI.bp; have q4 := hI.bu
  have hMk := Mark.mk
  k_steps
  clear hMk
  refine Halt.put ?_
  rename NearInv2 _ _ _ _ _ _ _ _ => hJ
  have hlo := near_exit2 (by assumption)
  have hz0 := nr_pos hp1 hJ.inv.bp hlo
  refine cut_store (Str.ofString "whole") (fun _ r => RneOf hJ r) (by k_asm) (by k_asm) ?_ ?_
  · refine wpAny_If ?_
    k_steps
    · refine Halt.put ?_
      exact cut_end (by assumption) (by assumption) (by ktd_sub) ⟨_, _, rfl, nr1 hJ.inv.bp (by assumption), Int.lt_add_one_of_le (Int.le_of_lt hz0)⟩
    · refine Halt.put ?_
      exact cut_end (by assumption) (by assumption) (by ktd_sub) ⟨_, _, rfl, nr2 hJ.inv.bp (by assumption) (by assumption), Int.lt_add_one_of_le (Int.le_of_lt hz0)⟩
    · refine Halt.put ?_
      exact cut_keep (by assumption) (by assumption) rfl (by ktd_sub) ⟨_, _, rfl, nr3 hJ.inv.bp (by assumption) (fun _ => by assumption), hz0⟩
    · refine Halt.put ?_
      exact cut_keep (by assumption) (by assumption) rfl (by ktd_sub) ⟨_, _, rfl, nr3 hJ.inv.bp (by assumption) (fun e => absurd e (by assumption)), hz0⟩
  rintro h' tk r tl F' N' ⟨z, u, rfl, hR, hz⟩
  clear hz0
  dsimp only
  k_with "state" => first | exact half_start (by assumption) | exact half_turn (by assumption) (by assumption)
  k_with "measure" => exact half_meas (by assumption) (by assumption)
  k_steps
  refine Halt.put ?_
  k_while_given ["whole!", "shift!"] (fun R s0 _ w s => HalfInv R s0 w s) (fun R s0 _ w s => w.toNat) "whole" "shift"
  k_steps
  · refine' ret_all hret (by assumption) (by assumption) (by ktd_sub) ⟨_, _, _, _, _, rfl, ?hm, ?he⟩
    case hm => k_mem
    case he =>
      have hw := near_end h0 hp1 hb0 hJ.inv hlo hJ.hi hR (by assumption) (by assumption)
      rw [if_pos (by assumption)] at hw
      exact hw
  · refine' ret_all hret (by assumption) (by assumption) (by ktd_sub) ⟨_, _, _, _, _, rfl, ?hm, ?he⟩
    case hm => k_mem
    case he =>
      have hw := near_end h0 hp1 hb0 hJ.inv hlo hJ.hi hR (by assumption) (by assumption)
      rw [if_neg (by assumption)] at hw
      exact hw
theorem laid_NTW12_4 : True := by
  k_with "NT call ref" => (k_here; (with_reducible show wpAny _ _ (PySem.call (Value.ref 702) _ _) _ _ _); k_dflt (refine' Does.use (c_lnear _ _ _ _ _ _ _ ?ha ?hb ?hc ?hd ?he ?hf) ?k1 ?k2 ?k3 ?k4 ?k5 ?kK ?kd ?ku ?_; (case k1 => k_asm); (case k2 => k_asm); (case k3 => k_asm); (case k4 => k_asm); (case k5 => k_asm); (case kK => first | exact rfl | assumption); (case kd => ktr_room); (case ku => ktr_units); (case ha => (walk_at "NTa")); (case hb => (walk_at "NTa")); (case hc => (walk_at "NTa")); (case hd => (walk_at "NTa")); (case he => (walk_at "NTa")); (case hf => (walk_at "NTa")); intro r9 tl9 h9 tk9 F9 N9 ho9; obtain ⟨a9, m9, e9, u9, w9, q9, hm9, hs9⟩ := ho9; subst q9; (try dsimp only); (try k_fold)))
  trivial
theorem laid_NTW12_end : True := by
  k_with_none
  k_with "NT subscriptTail Name Constant ref int" => (k_here; (with_reducible show wpAny _ _ (subscriptTail _ _ (Value.ref _) (Value.int _ _)) _ _ _); (with_unfolding_all refine' item_litK ?k1 ?k2 ?k3 ?k4 ?_ ?k6; (case k1 => exact News.isList (by k_asm) (by k_mem)); (case k2 => decide); (case k3 => decide); (case k4 => rfl); (case k6 => with_unfolding_all rfl); k_whole))
  k_with "NT call ref" => (k_here; (refine wpAny_call ?_); k_dflt (refine' code_def ?k1 ?k2 ?k3 ?k4 ?k5 ?kA ?kF ?kK ?k6 ?k7 ?k8 ?k9 ?kB ?_ ?c2 ?c3 ?c4 ?c5; (case kA => exact rfl); (case kF => exact rfl); (case kK => first | exact rfl | assumption); (case k1 => k_asm); (case k2 => k_asm); (case k3 => k_asm); (case k4 => k_asm); (case k5 => k_asm); (case k6 => k_is); (case k7 => k_is); (case k8 => ktr_room); (case k9 => exact BindsTo.of_eq rfl); (case c5 => decide); (case kB => exact locs rfl); (case c2 => exact rfl); (case c3 => exact rfl); (case c4 => exact rfl); k_whole; intro g' L' h' FG' F' N' B' X' T'; (try dsimp only); (try k_fold)))
  k_with "NT binaryOp Add ref ref" => (k_here; (with_reducible show wpAny _ _ (binaryOp _ (Value.ref _) (Value.ref _)) _ _ _); k_dflt (refine' kmk_add_lit ?F ?N ?a ?b ?e ?_ ?z; (case F => k_asm); (case N => k_asm); (case a => kmk_list); (case b => kmk_list); (case e => kl_lit); (case z => kl_room)); intro D' h' F' N' l1; (try dsimp only))
  k_with "NT compareOp NotEq ref ref" => (k_here; (with_reducible show wpAny _ _ (compareOp CmpOp.NotEq (Value.ref _) (Value.ref _)) _ _ _); k_dflt ((refine ne_dataH (by ke_read) (by ke_read) (by ke_shaped) (by ke_shaped) (by ktr_units) ?_); ke_norm))
  k_with "NT compareOp Eq ref ref" => (k_here; (with_reducible show wpAny _ _ (compareOp CmpOp.Eq (Value.ref _) (Value.ref _)) _ _ _); k_dflt ((refine eq_dataH (by ke_read) (by ke_read) (by ke_shaped) (by ke_shaped) (by ktr_units) ?_); ke_norm))
  k_with "NT exec For Name Name cons nil" => (k_here; (rename Fr _ _ _ _ => lF'); (with_unfolding_all refine' For_invVF lF' ?k1 ?k2 ?_; (case k1 => exact rfl); (case k2 => exact rfl); k_whole))
  k_with "NT exec For Name List cons nil" => (k_here; (rename Fr _ _ _ _ => lF'); (with_unfolding_all refine' For_invVF lF' ?k1 ?k2 ?_; (case k1 => exact rfl); (case k2 => exact rfl); k_whole))
  k_with "NT exec For Name Subscript cons nil" => (k_here; (rename Fr _ _ _ _ => lF'); (with_unfolding_all refine' For_invVF lF' ?k1 ?k2 ?_; (case k1 => exact rfl); (case k2 => exact rfl); k_whole))
  k_with "NT pyIter ref" => (k_here; (with_unfolding_all refine' iter_listUnr ?k0 ?k1 ?k2 ?k3 ?k4 ?k5 ?_; (case k0 => exact rfl); (case k1 => k_asm); (case k2 => k_asm); (case k3 => k_mem); (case k4 => exact rfl); (case k5 => exact rfl); k_whole); intro i9 l9)
  k_with "NT UnrEnd" => (refine UnrEnd.intro (by assumption) (by assumption) _ ?ks (offOf (by assumption)) ⟨?km, ?_⟩; (case ks => ktd_sub); (case km => k_mem))
  k_with "NT ite" => (k_openite; k_dflt (first | (refine ite_pos ?kc ?_; (case kc => first | omega | (simp only [decide_eq_true_eq, decide_eq_false_iff_not, beq_iff_eq, bne_iff_ne, ne_eq, Bool.not_eq_true', Bool.not_eq_false', Bool.and_eq_true, Bool.and_eq_false_iff, Bool.or_eq_true, Bool.not_not]; done) | ((simp only [decide_eq_true_eq, decide_eq_false_iff_not, beq_iff_eq, bne_iff_ne, ne_eq, Bool.not_eq_true', Bool.not_eq_false', Bool.and_eq_true, Bool.and_eq_false_iff, Bool.or_eq_true, Bool.not_not]); omega) | (simp; done))) | (refine ite_neg ?kc ?_; (case kc => first | omega | (simp only [decide_eq_true_eq, decide_eq_false_iff_not, beq_iff_eq, bne_iff_ne, ne_eq, Bool.not_eq_true', Bool.not_eq_false', Bool.and_eq_true, Bool.and_eq_false_iff, Bool.or_eq_true, Bool.not_not]; done) | ((simp only [decide_eq_true_eq, decide_eq_false_iff_not, beq_iff_eq, bne_iff_ne, ne_eq, Bool.not_eq_true', Bool.not_eq_false', Bool.and_eq_true, Bool.and_eq_false_iff, Bool.or_eq_true, Bool.not_not]); omega) | (simp; done)))))
  k_with "NT NTn" => first | assumption | exact NumIn.whole | exact NumIn.mono (by assumption) (by ktd_sub) | exact NumIn.real (by k_mem) (by k_mem) | exact NumIn.ratio (by k_mem) (by k_mem)
  k_with "NT NTt" => first | assumption | exact ⟨_, _, _, _, by k_mem, by k_mem⟩
  k_with "NT NTm" => first | assumption | ktr_member | k_mem
  k_with "NT NTo" => assumption
  k_with "NT NTa" => first | assumption | omega | decide
  k_with "NT binaryOp LShift int int" => (refine lshift_int_small ?kb1 ?kb2 ?kb3 ?_; (case kb1 => walk_at "NTa"); (case kb2 => walk_at "NTa"); (case kb3 => walk_at "NTa"))
  k_with "NT binaryOp Pow int int" => (refine pow_int_small ?kb1 ?kb2 ?kb3 ?_; (case kb1 => walk_at "NTa"); (case kb2 => walk_at "NTa"); (case kb3 => walk_at "NTa"))
  k_with "NT binaryOp RShift int int" => (refine rshift_int ?kb1 ?_; (case kb1 => walk_at "NTa"))
  k_with "NT binaryOp FloorDiv int int" => (refine floordiv_int ?kb1 ?_ (Or.inl (PyProof.noPylong_small ?kb2)); (case kb1 => walk_at "NTa"); (case kb2 => walk_at "NTa"))
  k_with "NT binaryOp Mult int int" => (refine mul_int ?_ ?kb1; rotate_left; (case kb1 => first | exact mulSignOk _ _ | exact IntMulOk.of_left (intBits_le_64 (by walk_at "NTa") (by walk_at "NTa")) | exact IntMulOk.of_right (intBits_le_64 (by walk_at "NTa") (by walk_at "NTa"))))
  k_with "NT call ref" => (k_here; (with_reducible show wpAny _ _ (PySem.call (Value.ref 695) _ _) _ _ _); k_dflt (refine' Does.use (c_low _ _ _ _ _ ?ha ?hb) ?k1 ?k2 ?k3 ?k4 ?k5 ?kK ?kd ?ku ?_; (case k1 => k_asm); (case k2 => k_asm); (case k3 => k_asm); (case k4 => k_asm); (case k5 => k_asm); (case kK => first | exact rfl | assumption); (case kd => ktr_room); (case ku => ktr_units); (case ha => omega); (case hb => omega); intro r9 tl9 h9 tk9 F9 N9 ho9; obtain ⟨a9, p9, q9, u9, v9, e9, hm9, hp9, hq9⟩ := ho9; subst e9; subst hp9; subst hq9; (try dsimp only); (try k_fold)))
  k_with "NT call ref" => (k_here; (with_reducible show wpAny _ _ (PySem.call (Value.ref 96) _ _) _ _ _); k_dflt (refine' Does.use (c_Real _ _ _ _ _) ?k1 ?k2 ?k3 ?k4 ?k5 ?kK ?kd ?ku ?_; (case k1 => k_asm); (case k2 => k_asm); (case k3 => k_asm); (case k4 => k_asm); (case k5 => k_asm); (case kK => first | exact rfl | assumption); (case kd => ktr_room); (case ku => ktr_units);  intro r9 tl9 h9 tk9 F9 N9 ho9; (try dsimp only); (try k_fold)))
  k_with "NT call ref" => (k_here; (with_reducible show wpAny _ _ (PySem.call (Value.ref 264) _ _) _ _ _); k_dflt (refine' Does.use (c_Ratio _ _ _ _ _) ?k1 ?k2 ?k3 ?k4 ?k5 ?kK ?kd ?ku ?_; (case k1 => k_asm); (case k2 => k_asm); (case k3 => k_asm); (case k4 => k_asm); (case k5 => k_asm); (case kK => first | exact rfl | assumption); (case kd => ktr_room); (case ku => ktr_units);  intro r9 tl9 h9 tk9 F9 N9 ho9; (try dsimp only); (try k_fold)))
  k_with "NT call ref" => (k_here; (with_reducible show wpAny _ _ (PySem.call (Value.ref 107) _ _) _ _ _); k_dflt (refine' Does.use (c_size _ _ _) ?k1 ?k2 ?k3 ?k4 ?k5 ?kK ?kd ?ku ?_; (case k1 => k_asm); (case k2 => k_asm); (case k3 => k_asm); (case k4 => k_asm); (case k5 => k_asm); (case kK => first | exact rfl | assumption); (case kd => ktr_room); (case ku => ktr_units);  intro r9 tl9 h9 tk9 F9 N9 ho9; obtain ⟨u9, e9⟩ := ho9; subst e9; (try dsimp only); (try k_fold)))
  k_with "NT call ref" => (k_here; (with_reducible show wpAny _ _ (PySem.call (Value.ref 114) _ _) _ _ _); k_dflt (refine' Does.use (c_sow _ _ _) ?k1 ?k2 ?k3 ?k4 ?k5 ?kK ?kd ?ku ?_; (case k1 => k_asm); (case k2 => k_asm); (case k3 => k_asm); (case k4 => k_asm); (case k5 => k_asm); (case kK => first | exact rfl | assumption); (case kd => ktr_room); (case ku => ktr_units);  intro r9 tl9 h9 tk9 F9 N9 ho9; obtain ⟨u9, e9⟩ := ho9; subst e9; (try dsimp only); (try k_fold)))
  k_with "NT call ref" => (k_here; (with_reducible show wpAny _ _ (PySem.call (Value.ref 121) _ _) _ _ _); k_dflt (refine' Does.use (c_zeros _ _ _ _ _ ?ha) ?k1 ?k2 ?k3 ?k4 ?k5 ?kK ?kd ?ku ?_; (case k1 => k_asm); (case k2 => k_asm); (case k3 => k_asm); (case k4 => k_asm); (case k5 => k_asm); (case kK => first | exact rfl | assumption); (case kd => ktr_room); (case ku => ktr_units); (case ha => assumption); intro r9 tl9 h9 tk9 F9 N9 ho9; obtain ⟨u9, e9⟩ := ho9; subst e9; (try dsimp only); (try k_fold)))
  k_with "NT call ref" => (k_here; (with_reducible show wpAny _ _ (PySem.call (Value.ref 128) _ _) _ _ _); k_dflt (refine' Does.use (c_lean _ _ _ _ _ ?ha ?ha2 ?hb ?hc) ?k1 ?k2 ?k3 ?k4 ?k5 ?kK ?kd ?ku ?_; (case k1 => k_asm); (case k2 => k_asm); (case k3 => k_asm); (case k4 => k_asm); (case k5 => k_asm); (case kK => first | exact rfl | assumption); (case kd => ktr_room); (case ku => ktr_units); (case ha => first | (walk_at "NTa") | exact (signMul (by omega) (by omega)).1); (case ha2 => first | (walk_at "NTa") | exact (signMul (by omega) (by omega)).2); (case hb => (walk_at "NTa")); (case hc => (walk_at "NTa")); intro r9 tl9 h9 tk9 F9 N9 ho9; obtain ⟨m9, e9, hm9, hn9⟩ := ho9; (try dsimp only); (try k_fold)))
  k_with "NT call ref" => (k_here; (with_reducible show wpAny _ _ (PySem.call (Value.ref 135) _ _) _ _ _); k_dflt (refine' Does.use (c_nshift _ _ _ _ _ ?ha ?hb ?hc) ?k1 ?k2 ?k3 ?k4 ?k5 ?kK ?kd ?ku ?_; (case k1 => k_asm); (case k2 => k_asm); (case k3 => k_asm); (case k4 => k_asm); (case k5 => k_asm); (case kK => first | exact rfl | assumption); (case kd => ktr_room); (case ku => ktr_units); (case ha => (walk_at "NTa")); (case hb => (walk_at "NTa")); (case hc => (walk_at "NTa")); intro r9 tl9 h9 tk9 F9 N9 ho9; obtain ⟨R9, u9, e9, hR9, hlo9, hhi9⟩ := ho9; subst e9; (try dsimp only); (try k_fold)))
  k_with "NT call ref" => (k_here; (with_reducible show wpAny _ _ (PySem.call (Value.ref 149) _ _) _ _ _); k_dflt (refine' Does.use (c_sticky _ _ _ _ ?ha ?hb) ?k1 ?k2 ?k3 ?k4 ?k5 ?kK ?kd ?ku ?_; (case k1 => k_asm); (case k2 => k_asm); (case k3 => k_asm); (case k4 => k_asm); (case k5 => k_asm); (case kK => first | exact rfl | assumption); (case kd => ktr_room); (case ku => ktr_units); (case ha => (walk_at "NTa")); (case hb => (walk_at "NTa")); intro r9 tl9 h9 tk9 F9 N9 ho9; obtain ⟨u9, e9⟩ := ho9; subst e9; (try dsimp only); (try k_fold)))
  k_with "NT call ref" => (k_here; (with_reducible show wpAny _ _ (PySem.call (Value.ref 142) _ _) _ _ _); k_dflt (refine' Does.use (c_sround _ _ _ _ _ _ _ ?ha ?hb ?hc ?hd ?he ?hf) ?k1 ?k2 ?k3 ?k4 ?k5 ?kK ?kd ?ku ?_; (case k1 => k_asm); (case k2 => k_asm); (case k3 => k_asm); (case k4 => k_asm); (case k5 => k_asm); (case kK => first | exact rfl | assumption); (case kd => ktr_room); (case ku => ktr_units); (case ha => (walk_at "NTa")); (case hb => (walk_at "NTa")); (case hc => (walk_at "NTa")); (case hd => (walk_at "NTa")); (case he => (walk_at "NTa")); (case hf => (walk_at "NTa")); intro r9 tl9 h9 tk9 F9 N9 ho9; obtain ⟨R9, m9, e9, hm9, hR9, hn9⟩ := ho9; (try dsimp only); (try k_fold)))
  k_with "NT call ref" => (k_here; (with_reducible show wpAny _ _ (PySem.call (Value.ref 156) _ _) _ _ _); k_dflt (refine' Does.use (c_rounded _ _ _ _ _ _ _ ?ha ?hb ?hc ?hd ?he ?hf) ?k1 ?k2 ?k3 ?k4 ?k5 ?kK ?kd ?ku ?_; (case k1 => k_asm); (case k2 => k_asm); (case k3 => k_asm); (case k4 => k_asm); (case k5 => k_asm); (case kK => first | exact rfl | assumption); (case kd => ktr_room); (case ku => ktr_units); (case ha => (walk_at "NTa")); (case hb => (walk_at "NTa")); (case hc => (walk_at "NTa")); (case hd => (walk_at "NTa")); (case he => (walk_at "NTa")); (case hf => (walk_at "NTa")); intro r9 tl9 h9 tk9 F9 N9 ho9; obtain ⟨m9, e9, hm9, hs9⟩ := ho9; (try dsimp only); (try k_fold)))
  k_with "NT call ref" => (k_here; (with_reducible show wpAny _ _ (PySem.call (Value.ref 163) _ _) _ _ _); k_dflt (refine' Does.use (c_exparts _ _ _ _ ?ha ?hb ?hc ?hd ?he) ?k1 ?k2 ?k3 ?k4 ?k5 ?kK ?kd ?ku ?_; (case k1 => k_asm); (case k2 => k_asm); (case k3 => k_asm); (case k4 => k_asm); (case k5 => k_asm); (case kK => first | exact rfl | assumption); (case kd => ktr_room); (case ku => ktr_units); (case ha => (walk_at "NTn")); (case hb => (walk_at "NTa")); (case hc => (walk_at "NTa")); (case hd => (walk_at "NTa")); (case he => (walk_at "NTa")); intro r9 tl9 h9 tk9 F9 N9 ho9; obtain ⟨a9, p9, q9, u9, v9, e9, hm9, hp9, hq9⟩ := ho9; subst e9; subst hp9; subst hq9; (try dsimp only); (try k_fold)))
  k_with "NT call ref" => (k_here; (with_reducible show wpAny _ _ (PySem.call (Value.ref 170) _ _) _ _ _); k_dflt (refine' Does.use (c_place _ _ _ _ ?ha) ?k1 ?k2 ?k3 ?k4 ?k5 ?kK ?kd ?ku ?_; (case k1 => k_asm); (case k2 => k_asm); (case k3 => k_asm); (case k4 => k_asm); (case k5 => k_asm); (case kK => first | exact rfl | assumption); (case kd => ktr_room); (case ku => ktr_units); (case ha => (walk_at "NTn")); intro r9 tl9 h9 tk9 F9 N9 ho9; obtain ⟨u9, e9⟩ := ho9; subst e9; (try dsimp only); (try k_fold)))
  k_with "NT call ref" => (k_here; (with_reducible show wpAny _ _ (PySem.call (Value.ref 177) _ _) _ _ _); k_dflt (refine' Does.use (c_signof _ _ _ _ ?ha) ?k1 ?k2 ?k3 ?k4 ?k5 ?kK ?kd ?ku ?_; (case k1 => k_asm); (case k2 => k_asm); (case k3 => k_asm); (case k4 => k_asm); (case k5 => k_asm); (case kK => first | exact rfl | assumption); (case kd => ktr_room); (case ku => ktr_units); (case ha => (walk_at "NTn")); intro r9 tl9 h9 tk9 F9 N9 ho9; obtain ⟨u9, e9⟩ := ho9; subst e9; (try dsimp only); (try k_fold)))
  k_with "NT call ref" => (k_here; (with_reducible show wpAny _ _ (PySem.call (Value.ref 184) _ _) _ _ _); k_dflt (refine' Does.use (c_negative _ _ _ _ ?ha) ?k1 ?k2 ?k3 ?k4 ?k5 ?kK ?kd ?ku ?_; (case k1 => k_asm); (case k2 => k_asm); (case k3 => k_asm); (case k4 => k_asm); (case k5 => k_asm); (case kK => first | exact rfl | assumption); (case kd => ktr_room); (case ku => ktr_units); (case ha => (walk_at "NTn")); intro r9 tl9 h9 tk9 F9 N9 ho9; (try dsimp only); (try k_fold)))
  k_with "NT call ref" => (k_here; (with_reducible show wpAny _ _ (PySem.call (Value.ref 191) _ _) _ _ _); k_dflt (refine' Does.use (c_magnitude _ _ _ _ ?ha) ?k1 ?k2 ?k3 ?k4 ?k5 ?kK ?kd ?ku ?_; (case k1 => k_asm); (case k2 => k_asm); (case k3 => k_asm); (case k4 => k_asm); (case k5 => k_asm); (case kK => first | exact rfl | assumption); (case kd => ktr_room); (case ku => ktr_units); (case ha => (walk_at "NTn")); intro r9 tl9 h9 tk9 F9 N9 ho9; (try dsimp only); (try k_fold)))
  k_with "NT call ref" => (k_here; (with_reducible show wpAny _ _ (PySem.call (Value.ref 198) _ _) _ _ _); k_dflt (refine' Does.use (c_same _ _ _ _ _ _ _ ?ha ?hb) ?k1 ?k2 ?k3 ?k4 ?k5 ?kK ?kd ?ku ?_; (case k1 => k_asm); (case k2 => k_asm); (case k3 => k_asm); (case k4 => k_asm); (case k5 => k_asm); (case kK => first | exact rfl | assumption); (case kd => ktr_room); (case ku => ktr_units); (case ha => (walk_at "NTn")); (case hb => (walk_at "NTn")); intro r9 tl9 h9 tk9 F9 N9 ho9; (have e9 : _ = _ := ho9); clear ho9; subst e9; (try dsimp only); (try k_fold)))
  k_with "NT call ref" => (k_here; (with_reducible show wpAny _ _ (PySem.call (Value.ref 205) _ _) _ _ _); k_dflt (refine' Does.use (c_cmpmag _ _ _ _ _ _ _ ?ha ?hb ?hc ?hd ?he ?hf ?hg ?hh ?hi ?hj) ?k1 ?k2 ?k3 ?k4 ?k5 ?kK ?kd ?ku ?_; (case k1 => k_asm); (case k2 => k_asm); (case k3 => k_asm); (case k4 => k_asm); (case k5 => k_asm); (case kK => first | exact rfl | assumption); (case kd => ktr_room); (case ku => ktr_units); (case ha => (walk_at "NTn")); (case hb => (walk_at "NTn")); (case hc => (walk_at "NTa")); (case hd => (walk_at "NTa")); (case he => (walk_at "NTa")); (case hf => (walk_at "NTa")); (case hg => (walk_at "NTa")); (case hh => (walk_at "NTa")); (case hi => (walk_at "NTa")); (case hj => (walk_at "NTa")); intro r9 tl9 h9 tk9 F9 N9 ho9; obtain ⟨u9, e9⟩ := ho9; subst e9; (try dsimp only); (try k_fold)))
  k_with "NT call ref" => (k_here; (with_reducible show wpAny _ _ (PySem.call (Value.ref 212) _ _) _ _ _); k_dflt (refine' Does.use (c_cmpreals _ _ _ _ _ _ _ ?ha ?hb ?hc ?hd ?he ?hf ?hg ?hh ?hi ?hj) ?k1 ?k2 ?k3 ?k4 ?k5 ?kK ?kd ?ku ?_; (case k1 => k_asm); (case k2 => k_asm); (case k3 => k_asm); (case k4 => k_asm); (case k5 => k_asm); (case kK => first | exact rfl | assumption); (case kd => ktr_room); (case ku => ktr_units); (case ha => (walk_at "NTn")); (case hb => (walk_at "NTn")); (case hc => (walk_at "NTa")); (case hd => (walk_at "NTa")); (case he => (walk_at "NTa")); (case hf => (walk_at "NTa")); (case hg => (walk_at "NTa")); (case hh => (walk_at "NTa")); (case hi => (walk_at "NTa")); (case hj => (walk_at "NTa")); intro r9 tl9 h9 tk9 F9 N9 ho9; obtain ⟨u9, e9⟩ := ho9; subst e9; (try dsimp only); (try k_fold)))
  k_with "NT call ref" => (k_here; (with_reducible show wpAny _ _ (PySem.call (Value.ref 219) _ _) _ _ _); k_dflt (refine' Does.use (c_fullm _ _ _ _ _ _ ?ha ?hb ?hc ?hd ?he) ?k1 ?k2 ?k3 ?k4 ?k5 ?kK ?kd ?ku ?_; (case k1 => k_asm); (case k2 => k_asm); (case k3 => k_asm); (case k4 => k_asm); (case k5 => k_asm); (case kK => first | exact rfl | assumption); (case kd => ktr_room); (case ku => ktr_units); (case ha => (walk_at "NTn")); (case hb => (walk_at "NTa")); (case hc => (walk_at "NTa")); (case hd => (walk_at "NTa")); (case he => (walk_at "NTa")); intro r9 tl9 h9 tk9 F9 N9 ho9; obtain ⟨a9, P9, u9, v9, e9, hm9, hP9⟩ := ho9; subst e9; subst hP9; (try dsimp only); (try k_fold)))
  k_with "NT call ref" => (k_here; (with_reducible show wpAny _ _ (PySem.call (Value.ref 226) _ _) _ _ _); k_dflt (refine' Does.use (c_farther _ _ _ _ _ _ ?ha ?hb ?hc ?hd ?he ?hf ?hg ?hh ?hi) ?k1 ?k2 ?k3 ?k4 ?k5 ?kK ?kd ?ku ?_; (case k1 => k_asm); (case k2 => k_asm); (case k3 => k_asm); (case k4 => k_asm); (case k5 => k_asm); (case kK => first | exact rfl | assumption); (case kd => ktr_room); (case ku => ktr_units); (case ha => (walk_at "NTn")); (case hb => (walk_at "NTa")); (case hc => (walk_at "NTa")); (case hd => (walk_at "NTa")); (case he => (walk_at "NTa")); (case hf => (walk_at "NTa")); (case hg => (walk_at "NTa")); (case hh => (walk_at "NTa")); (case hi => (walk_at "NTa")); intro r9 tl9 h9 tk9 F9 N9 ho9; obtain ⟨m9, e9, hm9, hn9⟩ := ho9; (try dsimp only); (try k_fold)))
  k_with "NT call ref" => (k_here; (with_reducible show wpAny _ _ (PySem.call (Value.ref 233) _ _) _ _ _); k_dflt (refine' Does.use (c_nearer _ _ _ _ _ _ ?ha ?hb ?hc ?hd ?he ?hf ?hg ?hh ?hi) ?k1 ?k2 ?k3 ?k4 ?k5 ?kK ?kd ?ku ?_; (case k1 => k_asm); (case k2 => k_asm); (case k3 => k_asm); (case k4 => k_asm); (case k5 => k_asm); (case kK => first | exact rfl | assumption); (case kd => ktr_room); (case ku => ktr_units); (case ha => (walk_at "NTn")); (case hb => (walk_at "NTa")); (case hc => (walk_at "NTa")); (case hd => (walk_at "NTa")); (case he => (walk_at "NTa")); (case hf => (walk_at "NTa")); (case hg => (walk_at "NTa")); (case hh => (walk_at "NTa")); (case hi => (walk_at "NTa")); intro r9 tl9 h9 tk9 F9 N9 ho9; obtain ⟨m9, e9, hm9, hn9⟩ := ho9; (try dsimp only); (try k_fold)))
  k_with "NT call ref" => (k_here; (with_reducible show wpAny _ _ (PySem.call (Value.ref 240) _ _) _ _ _); k_dflt (refine' Does.use (c_above _ _ _ _ _ _ ?ha ?hb ?hc ?hd ?he ?hf ?hg ?hh ?hi) ?k1 ?k2 ?k3 ?k4 ?k5 ?kK ?kd ?ku ?_; (case k1 => k_asm); (case k2 => k_asm); (case k3 => k_asm); (case k4 => k_asm); (case k5 => k_asm); (case kK => first | exact rfl | assumption); (case kd => ktr_room); (case ku => ktr_units); (case ha => (walk_at "NTn")); (case hb => (walk_at "NTa")); (case hc => (walk_at "NTa")); (case hd => (walk_at "NTa")); (case he => (walk_at "NTa")); (case hf => (walk_at "NTa")); (case hg => (walk_at "NTa")); (case hh => (walk_at "NTa")); (case hi => (walk_at "NTa")); intro r9 tl9 h9 tk9 F9 N9 ho9; obtain ⟨m9, e9, hm9, hn9⟩ := ho9; (try dsimp only); (try k_fold)))
  k_with "NT call ref" => (k_here; (with_reducible show wpAny _ _ (PySem.call (Value.ref 247) _ _) _ _ _); k_dflt (refine' Does.use (c_below _ _ _ _ _ _ ?ha ?hb ?hc ?hd ?he ?hf ?hg ?hh ?hi) ?k1 ?k2 ?k3 ?k4 ?k5 ?kK ?kd ?ku ?_; (case k1 => k_asm); (case k2 => k_asm); (case k3 => k_asm); (case k4 => k_asm); (case k5 => k_asm); (case kK => first | exact rfl | assumption); (case kd => ktr_room); (case ku => ktr_units); (case ha => (walk_at "NTn")); (case hb => (walk_at "NTa")); (case hc => (walk_at "NTa")); (case hd => (walk_at "NTa")); (case he => (walk_at "NTa")); (case hf => (walk_at "NTa")); (case hg => (walk_at "NTa")); (case hh => (walk_at "NTa")); (case hi => (walk_at "NTa")); intro r9 tl9 h9 tk9 F9 N9 ho9; obtain ⟨m9, e9, hm9, hn9⟩ := ho9; (try dsimp only); (try k_fold)))
  k_with "NT call builtin:isinstance" => (k_here; (with_reducible show wpAny _ _ (PySem.call (Value.builtin "isinstance") [_, Value.ref 96]) _ _ _); k_dflt (refine' isi_num ?k1 ?k2 ?k3 ?k4 ?k5 ?_; (case k1 => k_asm); (case k2 => k_asm); (case k3 => k_asm); (case k4 => walk_at "NTn"); (case k5 => first | assumption | exact rfl); k_whole; intro tk9; (try dsimp only [Num.isReal])))
  k_with "NT call ref" => (k_here; (with_reducible show wpAny _ _ (PySem.call (Value.ref 345) _ _) _ _ _); k_dflt (refine' Does.use (c_isinexact _ _ _ ?ha) ?k1 ?k2 ?k3 ?k4 ?k5 ?kK ?kd ?ku ?_; (case k1 => k_asm); (case k2 => k_asm); (case k3 => k_asm); (case k4 => k_asm); (case k5 => k_asm); (case kK => first | exact rfl | assumption); (case kd => ktr_room); (case ku => ktr_units); (case ha => (walk_at "NTn")); intro r9 tl9 h9 tk9 F9 N9 ho9; (have e9 : _ = _ := ho9); clear ho9; subst e9; (try dsimp only); (try k_fold)))
  k_with "NT call ref" => (k_here; (with_reducible show wpAny _ _ (PySem.call (Value.ref 282) _ _) _ _ _); k_dflt (refine' Does.use (c_isexact _ _ _ ?ha) ?k1 ?k2 ?k3 ?k4 ?k5 ?kK ?kd ?ku ?_; (case k1 => k_asm); (case k2 => k_asm); (case k3 => k_asm); (case k4 => k_asm); (case k5 => k_asm); (case kK => first | exact rfl | assumption); (case kd => ktr_room); (case ku => ktr_units); (case ha => (walk_at "NTn")); intro r9 tl9 h9 tk9 F9 N9 ho9; (have e9 : _ = _ := ho9); clear ho9; subst e9; (try dsimp only); (try k_fold)))
  k_with "NT call ref" => (k_here; (with_reducible show wpAny _ _ (PySem.call (Value.ref 289) _ _) _ _ _); k_dflt (refine' Does.use (c_topof _ _ _ ?ha ?hb) ?k1 ?k2 ?k3 ?k4 ?k5 ?kK ?kd ?ku ?_; (case k1 => k_asm); (case k2 => k_asm); (case k3 => k_asm); (case k4 => k_asm); (case k5 => k_asm); (case kK => first | exact rfl | assumption); (case kd => ktr_room); (case ku => ktr_units); (case ha => (walk_at "NTn")); (case hb => first | assumption | rfl); intro r9 tl9 h9 tk9 F9 N9 ho9; obtain ⟨u9, e9⟩ := ho9; subst e9; (try dsimp only); (try k_fold)))
  k_with "NT call ref" => (k_here; (with_reducible show wpAny _ _ (PySem.call (Value.ref 296) _ _) _ _ _); k_dflt (refine' Does.use (c_bottomof _ _ _ ?ha ?hb) ?k1 ?k2 ?k3 ?k4 ?k5 ?kK ?kd ?ku ?_; (case k1 => k_asm); (case k2 => k_asm); (case k3 => k_asm); (case k4 => k_asm); (case k5 => k_asm); (case kK => first | exact rfl | assumption); (case kd => ktr_room); (case ku => ktr_units); (case ha => (walk_at "NTn")); (case hb => first | assumption | rfl); intro r9 tl9 h9 tk9 F9 N9 ho9; obtain ⟨u9, e9⟩ := ho9; subst e9; (try dsimp only); (try k_fold)))
  k_with "NT call ref" => (k_here; (with_reducible show wpAny _ _ (PySem.call (Value.ref 177) _ _) _ _ _); k_dflt (refine' Does.use (c_signof' _ _ _ ?ha ?hb) ?k1 ?k2 ?k3 ?k4 ?k5 ?kK ?kd ?ku ?_; (case k1 => k_asm); (case k2 => k_asm); (case k3 => k_asm); (case k4 => k_asm); (case k5 => k_asm); (case kK => first | exact rfl | assumption); (case kd => ktr_room); (case ku => ktr_units); (case ha => (walk_at "NTn")); (case hb => first | assumption | rfl); intro r9 tl9 h9 tk9 F9 N9 ho9; obtain ⟨u9, e9⟩ := ho9; subst e9; (try dsimp only); (try k_fold)))
  k_with "NT call ref" => (k_here; (with_reducible show wpAny _ _ (PySem.call (Value.ref 212) _ _) _ _ _); k_dflt (refine' Does.use (c_cmpreals' _ _ _ _ _ _ ?ha ?hb ?hc ?hd ?he ?hf ?hg) ?k1 ?k2 ?k3 ?k4 ?k5 ?kK ?kd ?ku ?_; (case k1 => k_asm); (case k2 => k_asm); (case k3 => k_asm); (case k4 => k_asm); (case k5 => k_asm); (case kK => first | exact rfl | assumption); (case kd => ktr_room); (case ku => ktr_units); (case ha => (walk_at "NTn")); (case hb => (walk_at "NTn")); (case hc => first | assumption | rfl); (case hd => first | assumption | rfl); (case he => (walk_at "NTa")); (case hf => (walk_at "NTo")); (case hg => (walk_at "NTo")); intro r9 tl9 h9 tk9 F9 N9 ho9; obtain ⟨u9, e9⟩ := ho9; subst e9; (try dsimp only); (try k_fold)))
  k_with "NT call ref" => (k_here; (with_reducible show wpAny _ _ (PySem.call (Value.ref 198) _ _) _ _ _); k_dflt (refine' Does.use (c_same' _ _ _ _ _ _ ?ha ?hb ?hc ?hd ?hf ?hg) ?k1 ?k2 ?k3 ?k4 ?k5 ?kK ?kd ?ku ?_; (case k1 => k_asm); (case k2 => k_asm); (case k3 => k_asm); (case k4 => k_asm); (case k5 => k_asm); (case kK => first | exact rfl | assumption); (case kd => ktr_room); (case ku => ktr_units); (case ha => (walk_at "NTn")); (case hb => (walk_at "NTn")); (case hc => first | assumption | rfl); (case hd => first | assumption | rfl); (case hf => (walk_at "NTo")); (case hg => (walk_at "NTo")); intro r9 tl9 h9 tk9 F9 N9 ho9; (have e9 : _ = _ := ho9); clear ho9; subst e9; (try dsimp only); (try k_fold)))
  k_with "NT call ref" => (k_here; (with_reducible show wpAny _ _ (PySem.call (Value.ref 163) _ _) _ _ _); k_dflt (refine' Does.use (c_exparts' _ _ _ _ ?ha ?hb ?hc ?hd) ?k1 ?k2 ?k3 ?k4 ?k5 ?kK ?kd ?ku ?_; (case k1 => k_asm); (case k2 => k_asm); (case k3 => k_asm); (case k4 => k_asm); (case k5 => k_asm); (case kK => first | exact rfl | assumption); (case kd => ktr_room); (case ku => ktr_units); (case ha => (walk_at "NTn")); (case hb => first | assumption | rfl); (case hc => (walk_at "NTa")); (case hd => (walk_at "NTo")); intro r9 tl9 h9 tk9 F9 N9 ho9; obtain ⟨a9, p9, q9, u9, v9, e9, hm9, hp9, hq9⟩ := ho9; subst e9; subst hp9; subst hq9; (try dsimp only); (try k_fold)))
  k_with "NT call ref" => (k_here; (with_reducible show wpAny _ _ (PySem.call (Value.ref 352) _ _) _ _ _); k_dflt (refine' Does.use (c_sign _ _ _ ?ha) ?k1 ?k2 ?k3 ?k4 ?k5 ?kK ?kd ?ku ?_; (case k1 => k_asm); (case k2 => k_asm); (case k3 => k_asm); (case k4 => k_asm); (case k5 => k_asm); (case kK => first | exact rfl | assumption); (case kd => ktr_room); (case ku => ktr_units); (case ha => (walk_at "NTn")); intro r9 tl9 h9 tk9 F9 N9 ho9; obtain ⟨u9, e9⟩ := ho9; subst e9; (try dsimp only); (try k_fold)))
  k_with "NT call ref" => (k_here; (with_reducible show wpAny _ _ (PySem.call (Value.ref 331) _ _) _ _ _); k_dflt (refine' Does.use (c_cmpexact _ _ _ _ _ ?ha ?hb ?hc ?hd ?he ?hf ?hg ?hh) ?k1 ?k2 ?k3 ?k4 ?k5 ?kK ?kd ?ku ?_; (case k1 => k_asm); (case k2 => k_asm); (case k3 => k_asm); (case k4 => k_asm); (case k5 => k_asm); (case kK => first | exact rfl | assumption); (case kd => ktr_room); (case ku => ktr_units); (case ha => (walk_at "NTn")); (case hb => (walk_at "NTn")); (case hc => first | assumption | rfl | exact ex_isReal _); (case hd => first | assumption | rfl | exact ex_isReal _); (case he => (walk_at "NTa")); (case hf => (walk_at "NTa")); (case hg => (walk_at "NTa")); (case hh => (walk_at "NTa")); intro r9 tl9 h9 tk9 F9 N9 ho9; obtain ⟨u9, e9⟩ := ho9; subst e9; (try dsimp only); (try k_fold)))
  k_with "NT call ref" => (k_here; (with_reducible show wpAny _ _ (PySem.call (Value.ref 338) _ _) _ _ _); k_dflt (refine' Does.use (c_eqexact _ _ _ _ _ _ ?ha ?hb ?hc ?hd ?hf ?hg) ?k1 ?k2 ?k3 ?k4 ?k5 ?kK ?kd ?ku ?_; (case k1 => k_asm); (case k2 => k_asm); (case k3 => k_asm); (case k4 => k_asm); (case k5 => k_asm); (case kK => first | exact rfl | assumption); (case kd => ktr_room); (case ku => ktr_units); (case ha => (walk_at "NTn")); (case hb => (walk_at "NTn")); (case hc => first | assumption | rfl); (case hd => first | assumption | rfl); (case hf => (walk_at "NTo")); (case hg => (walk_at "NTo")); intro r9 tl9 h9 tk9 F9 N9 ho9; (have e9 : _ = _ := ho9); clear ho9; subst e9; (try dsimp only); (try k_fold)))
  k_with "NT call ref" => (k_here; (with_reducible show wpAny _ _ (PySem.call (Value.ref 303) _ _) _ _ _); k_dflt (refine' Does.use (c_gcdof _ _ _ _ _) ?k1 ?k2 ?k3 ?k4 ?k5 ?kK ?kd ?ku ?_; (case k1 => k_asm); (case k2 => k_asm); (case k3 => k_asm); (case k4 => k_asm); (case k5 => k_asm); (case kK => first | exact rfl | assumption); (case kd => ktr_room); (case ku => ktr_units);  intro r9 tl9 h9 tk9 F9 N9 ho9; obtain ⟨u9, e9⟩ := ho9; subst e9; (try dsimp only); (try k_fold)))
  k_with "NT call ref" => (k_here; (with_reducible show wpAny _ _ (PySem.call (Value.ref 317) _ _) _ _ _); k_dflt (refine' Does.use (c_ratioof _ _ _ _ _ ?ha ?hb) ?k1 ?k2 ?k3 ?k4 ?k5 ?kK ?kd ?ku ?_; (case k1 => k_asm); (case k2 => k_asm); (case k3 => k_asm); (case k4 => k_asm); (case k5 => k_asm); (case kK => first | exact rfl | assumption); (case kd => ktr_room); (case ku => ktr_units); (case ha => (walk_at "NTa")); (case hb => (walk_at "NTa")); intro r9 tl9 h9 tk9 F9 N9 ho9; (try dsimp only); (try k_fold)))
  k_with "NT call ref" => (k_here; (with_reducible show wpAny _ _ (PySem.call (Value.ref 359) _ _) _ _ _); k_dflt (refine' Does.use (c_toexact _ _ _ _ ?ha ?hb ?hc) ?k1 ?k2 ?k3 ?k4 ?k5 ?kK ?kd ?ku ?_; (case k1 => k_asm); (case k2 => k_asm); (case k3 => k_asm); (case k4 => k_asm); (case k5 => k_asm); (case kK => first | exact rfl | assumption); (case kd => ktr_room); (case ku => ktr_units); (case ha => (walk_at "NTn")); (case hb => (walk_at "NTa")); (case hc => (walk_at "NTo")); intro r9 tl9 h9 tk9 F9 N9 ho9; (try dsimp only); (try k_fold)))
  k_with "NT call ref" => (k_here; (with_reducible show wpAny _ _ (PySem.call (Value.ref 366) _ _) _ _ _); k_dflt (refine' Does.use (c_toinexact _ _ _ _ _ ?ha ?hb ?hc ?hd) ?k1 ?k2 ?k3 ?k4 ?k5 ?kK ?kd ?ku ?_; (case k1 => k_asm); (case k2 => k_asm); (case k3 => k_asm); (case k4 => k_asm); (case k5 => k_asm); (case kK => first | exact rfl | assumption); (case kd => ktr_room); (case ku => ktr_units); (case ha => (walk_at "NTn")); (case hb => (walk_at "NTa")); (case hc => (walk_at "NTa")); (case hd => (walk_at "NTo")); intro r9 tl9 h9 tk9 F9 N9 ho9; obtain ⟨m9, e9, hm9, hs9, ho9⟩ := ho9; (try dsimp only); (try k_fold)))
  k_with "NT call ref" => (k_here; (with_reducible show wpAny _ _ (PySem.call (Value.ref 387) _ _) _ _ _); k_dflt (refine' Does.use (c_compare _ _ _ _ _ _ ?ha ?hb ?hc ?hd ?he) ?k1 ?k2 ?k3 ?k4 ?k5 ?kK ?kd ?ku ?_; (case k1 => k_asm); (case k2 => k_asm); (case k3 => k_asm); (case k4 => k_asm); (case k5 => k_asm); (case kK => first | exact rfl | assumption); (case kd => ktr_room); (case ku => ktr_units); (case ha => (walk_at "NTn")); (case hb => (walk_at "NTn")); (case hc => (walk_at "NTa")); (case hd => (walk_at "NTo")); (case he => (walk_at "NTo")); intro r9 tl9 h9 tk9 F9 N9 ho9; obtain ⟨u9, e9⟩ := ho9; subst e9; (try dsimp only); (try k_fold)))
  k_with "NT call ref" => (k_here; (with_reducible show wpAny _ _ (PySem.call (Value.ref 394) _ _) _ _ _); k_dflt (refine' Does.use (c_samenum _ _ _ _ _ _ ?ha ?hb ?hc ?hd) ?k1 ?k2 ?k3 ?k4 ?k5 ?kK ?kd ?ku ?_; (case k1 => k_asm); (case k2 => k_asm); (case k3 => k_asm); (case k4 => k_asm); (case k5 => k_asm); (case kK => first | exact rfl | assumption); (case kd => ktr_room); (case ku => ktr_units); (case ha => (walk_at "NTn")); (case hb => (walk_at "NTn")); (case hc => (walk_at "NTo")); (case hd => (walk_at "NTo")); intro r9 tl9 h9 tk9 F9 N9 ho9; (have e9 : _ = _ := ho9); clear ho9; subst e9; (try dsimp only); (try k_fold)))
  k_with "NT call ref" => (k_here; (with_reducible show wpAny _ _ (PySem.call (Value.ref 373) _ _) _ _ _); k_dflt (refine' Does.use (c_hasinexact _ _ _ _ _ _ ?hl ?ha ?hb) ?k1 ?k2 ?k3 ?k4 ?k5 ?kK ?kd ?ku ?_; (case k1 => k_asm); (case k2 => k_asm); (case k3 => k_asm); (case k4 => k_asm); (case k5 => k_asm); (case kK => first | exact rfl | assumption); (case kd => ktr_room); (case ku => ktr_units); (case hl => walk_at "NTm"); (case ha => (walk_at "NTn")); (case hb => (walk_at "NTn")); intro r9 tl9 h9 tk9 F9 N9 ho9; (have e9 : _ = _ := ho9); clear ho9; subst e9; (try dsimp only); (try k_fold)))
  k_with "NT call ref" => (k_here; (with_reducible show wpAny _ _ (PySem.call (Value.ref 380) _ _) _ _ _); k_dflt (refine' Does.use (c_asof _ _ _ _ _ _ _ _ _ _ ?hl ?ha ?hb ?hc ?hd ?he ?hf) ?k1 ?k2 ?k3 ?k4 ?k5 ?kK ?kd ?ku ?_; (case k1 => k_asm); (case k2 => k_asm); (case k3 => k_asm); (case k4 => k_asm); (case k5 => k_asm); (case kK => first | exact rfl | assumption); (case kd => ktr_room); (case ku => ktr_units); (case hl => walk_at "NTm"); (case ha => (walk_at "NTn")); (case hb => (walk_at "NTn")); (case hc => (walk_at "NTn")); (case hd => (walk_at "NTa")); (case he => (walk_at "NTa")); (case hf => (walk_at "NTo")); intro r9 tl9 h9 tk9 F9 N9 ho9; obtain ⟨z9, hz9, hk9⟩ := ho9; (try dsimp only); (try k_fold)))
  k_with "NT call ref" => (k_here; (with_reducible show wpAny _ _ (PySem.call (Value.ref 583) _ _) _ _ _); k_dflt (refine' Does.use (c_greatest _ _ _ _ _ _ _ _ ?ht ?hl ?ha ?hb ?hc ?hd ?he ?hf) ?k1 ?k2 ?k3 ?k4 ?k5 ?kK ?kd ?ku ?_; (case k1 => k_asm); (case k2 => k_asm); (case k3 => k_asm); (case k4 => k_asm); (case k5 => k_asm); (case kK => first | exact rfl | assumption); (case kd => ktr_room); (case ku => ktr_units); (case ht => walk_at "NTt"); (case hl => walk_at "NTm"); (case ha => (walk_at "NTn")); (case hb => (walk_at "NTn")); (case hc => (walk_at "NTa")); (case hd => (walk_at "NTa")); (case he => (walk_at "NTo")); (case hf => (walk_at "NTo")); intro r9 tl9 h9 tk9 F9 N9 ho9; obtain ⟨z9, hz9, hk9⟩ := ho9; (try dsimp only); (try k_fold)))
  k_with "NT call ref" => (k_here; (with_reducible show wpAny _ _ (PySem.call (Value.ref 590) _ _) _ _ _); k_dflt (refine' Does.use (c_least _ _ _ _ _ _ _ _ ?ht ?hl ?ha ?hb ?hc ?hd ?he ?hf) ?k1 ?k2 ?k3 ?k4 ?k5 ?kK ?kd ?ku ?_; (case k1 => k_asm); (case k2 => k_asm); (case k3 => k_asm); (case k4 => k_asm); (case k5 => k_asm); (case kK => first | exact rfl | assumption); (case kd => ktr_room); (case ku => ktr_units); (case ht => walk_at "NTt"); (case hl => walk_at "NTm"); (case ha => (walk_at "NTn")); (case hb => (walk_at "NTn")); (case hc => (walk_at "NTa")); (case hd => (walk_at "NTa")); (case he => (walk_at "NTo")); (case hf => (walk_at "NTo")); intro r9 tl9 h9 tk9 F9 N9 ho9; obtain ⟨z9, hz9, hk9⟩ := ho9; (try dsimp only); (try k_fold)))
  k_with "NT call ref" => (k_here; (with_reducible show wpAny _ _ (PySem.call (Value.ref 716) _ _) _ _ _); k_dflt (refine' Does.use (c_lfrac _ _ _ _ ?ha ?hb ?hc) ?k1 ?k2 ?k3 ?k4 ?k5 ?kK ?kd ?ku ?_; (case k1 => k_asm); (case k2 => k_asm); (case k3 => k_asm); (case k4 => k_asm); (case k5 => k_asm); (case kK => first | exact rfl | assumption); (case kd => ktr_room); (case ku => ktr_units); (case ha => (walk_at "NTn")); (case hb => (walk_at "NTa")); (case hc => (walk_at "NTo")); intro r9 tl9 h9 tk9 F9 N9 ho9; obtain ⟨a9, s9, q9, u9, w9, e9, hm9, hp9, hq9⟩ := ho9; subst e9; subst hp9; subst hq9; (try dsimp only); (try k_fold)))
  k_with "NT call ref" => (k_here; (with_reducible show wpAny _ _ (PySem.call (Value.ref 737) _ _) _ _ _); k_dflt (refine' Does.use (c_lless _ _ _ _ _ _ ?ha ?hb ?hc ?hd ?he) ?k1 ?k2 ?k3 ?k4 ?k5 ?kK ?kd ?ku ?_; (case k1 => k_asm); (case k2 => k_asm); (case k3 => k_asm); (case k4 => k_asm); (case k5 => k_asm); (case kK => first | exact rfl | assumption); (case kd => ktr_room); (case ku => ktr_units); (case ha => (walk_at "NTn")); (case hb => (walk_at "NTn")); (case hc => (walk_at "NTa")); (case hd => (walk_at "NTo")); (case he => (walk_at "NTo")); intro r9 tl9 h9 tk9 F9 N9 ho9; obtain ⟨u9, e9⟩ := ho9; subst e9; (try dsimp only); (try k_fold)))
  k_with "NT call ref" => (k_here; (with_reducible show wpAny _ _ (PySem.call (Value.ref 723) _ _) _ _ _); k_dflt (refine' Does.use (c_lshownR _ _ _ _ ?ha) ?k1 ?k2 ?k3 ?k4 ?k5 ?kK ?kd ?ku ?_; (case k1 => k_asm); (case k2 => k_asm); (case k3 => k_asm); (case k4 => k_asm); (case k5 => k_asm); (case kK => first | exact rfl | assumption); (case kd => ktr_room); (case ku => ktr_units); (case ha => (walk_at "NTn")); intro r9 tl9 h9 tk9 F9 N9 ho9; obtain ⟨a9, u9, v9, w9, e9, hm9⟩ := ho9; subst e9; (try dsimp only); (try k_fold)))
  k_with "NT call ref" => (k_here; (with_reducible show wpAny _ _ (PySem.call (Value.ref 723) _ _) _ _ _); k_dflt (refine' Does.use (c_lshownE _ _ _ ?ha ?hb) ?k1 ?k2 ?k3 ?k4 ?k5 ?kK ?kd ?ku ?_; (case k1 => k_asm); (case k2 => k_asm); (case k3 => k_asm); (case k4 => k_asm); (case k5 => k_asm); (case kK => first | exact rfl | assumption); (case kd => ktr_room); (case ku => ktr_units); (case ha => (walk_at "NTn")); (case hb => first | assumption | exact ex_isReal _ | rfl); intro r9 tl9 h9 tk9 F9 N9 ho9; obtain ⟨a9, u9, v9, w9, e9, hm9⟩ := ho9; subst e9; (try dsimp only); (try k_fold)))
  k_with "NT call ref" => (k_here; (with_reducible show wpAny _ _ (PySem.call (Value.ref 709) _ _) _ _ _); k_dflt (refine' Does.use (c_lreal _ _ _ _ _) ?k1 ?k2 ?k3 ?k4 ?k5 ?kK ?kd ?ku ?_; (case k1 => k_asm); (case k2 => k_asm); (case k3 => k_asm); (case k4 => k_asm); (case k5 => k_asm); (case kK => first | exact rfl | assumption); (case kd => ktr_room); (case ku => ktr_units);  intro r9 tl9 h9 tk9 F9 N9 ho9; obtain ⟨m9, e9, hm9, hn9⟩ := ho9; (try dsimp only); (try k_fold)))
  k_with "NT call ref" => (k_here; (with_reducible show wpAny _ _ (PySem.call (Value.ref 702) _ _) _ _ _); k_dflt (refine' Does.use (c_lnear _ _ _ _ _ _ _ ?ha ?hb ?hc ?hd ?he ?hf) ?k1 ?k2 ?k3 ?k4 ?k5 ?kK ?kd ?ku ?_; (case k1 => k_asm); (case k2 => k_asm); (case k3 => k_asm); (case k4 => k_asm); (case k5 => k_asm); (case kK => first | exact rfl | assumption); (case kd => ktr_room); (case ku => ktr_units); (case ha => (walk_at "NTa")); (case hb => (walk_at "NTa")); (case hc => (walk_at "NTa")); (case hd => (walk_at "NTa")); (case he => (walk_at "NTa")); (case hf => (walk_at "NTa")); intro r9 tl9 h9 tk9 F9 N9 ho9; obtain ⟨a9, m9, e9, u9, w9, q9, hm9, hs9⟩ := ho9; subst q9; (try dsimp only); (try k_fold)))
  trivial
end
section
theorem bneF {a b : Bool} (h : (a != b) = false) : a = b := by cases a <;> cases b <;> simp_all
set_option maxRecDepth 100000 in
set_option maxHeartbeats 16000000 in
theorem c_lnext {w : World} {mean mg mb} (news : List (Addr × Obj)) (p : Int) (t0 : Tok) (v : Value) (m e way : Int) (t3 : Tok) (hv : NumIn news v (.real m e)) (hp1 : 2 ≤ p) (hp2 : p ≤ 8) (hm : m ≠ 0) (hb : m.natAbs < 2 ^ p.toNat) (hw1 : -1 ≤ way) (hw2 : way ≤ 1) (hw3 : way ≠ 0) (hm1 : -255 ≤ m) (hm2 : m ≤ 255) :
    Does w mean mg mb 744 3 [.int p t0, v, .int way t3] news (fun tl r => ∃ a m' e' u0 u1 u2, r = .ref a ∧ (a, lisOf [.str (Str.ofString "real") u0, .int m' u1, .int e' u2]) ∈ tl ∧ NextSpec p m e way m' e') := by
  have hv0 := hv
  cases hv
  rename_i x dx h1 h2 t1 u1 t2 u2 hi1 hi2
  unfold Does
  k_fill
  intro dp un gd cn cs aF ccd cl outer A₀ base h₀ L mF s Q E B F X N T hK9 hD9 hU9 hret
  refine wpAny_call ?_
  k_dflt (refine' code_def (binds := [(Str.ofString "bits", .int p t0), (Str.ofString "number", .ref x), (Str.ofString "way", .int way t3)]) ?k1 ?k2 ?k3 ?k4 ?k5 ?kA ?kF ?kK ?k6 ?k7 ?k8 ?k9 ?kB ?_ ?c2 ?c3 ?c4 ?c5; (case kA => exact rfl); (case kF => exact rfl); (case kK => assumption); (case k1 => k_asm); (case k2 => k_asm); (case k3 => k_asm); (case k4 => k_asm); (case k5 => k_asm); (case k6 => k_is); (case k7 => k_is); (case k8 => ktr_room); (case k9 => exact BindsTo.of_eq rfl); (case c5 => decide); (case kB => exact locs rfl); (case c2 => exact rfl); (case c3 => exact rfl); (case c4 => exact rfl); k_whole; intro g' L' h' FG' F' N' B' X' T'; (try dsimp only); (try k_fold))

  k_with_none
  k_with "NT subscriptTail Name Constant ref int" => (k_here; (with_reducible show wpAny _ _ (subscriptTail _ _ (Value.ref _) (Value.int _ _)) _ _ _); (with_unfolding_all refine' item_litK ?k1 ?k2 ?k3 ?k4 ?_ ?k6; (case k1 => exact News.isList (by k_asm) (by k_mem)); (case k2 => decide); (case k3 => decide); (case k4 => rfl); (case k6 => with_unfolding_all rfl); k_whole))
  k_with "NT call ref" => (k_here; (refine wpAny_call ?_); k_dflt (refine' code_def ?k1 ?k2 ?k3 ?k4 ?k5 ?kA ?kF ?kK ?k6 ?k7 ?k8 ?k9 ?kB ?_ ?c2 ?c3 ?c4 ?c5; (case kA => exact rfl); (case kF => exact rfl); (case kK => first | exact rfl | assumption); (case k1 => k_asm); (case k2 => k_asm); (case k3 => k_asm); (case k4 => k_asm); (case k5 => k_asm); (case k6 => k_is); (case k7 => k_is); (case k8 => ktr_room); (case k9 => exact BindsTo.of_eq rfl); (case c5 => decide); (case kB => exact locs rfl); (case c2 => exact rfl); (case c3 => exact rfl); (case c4 => exact rfl); k_whole; intro g' L' h' FG' F' N' B' X' T'; (try dsimp only); (try k_fold)))
  k_with "NT binaryOp Add ref ref" => (k_here; (with_reducible show wpAny _ _ (binaryOp _ (Value.ref _) (Value.ref _)) _ _ _); k_dflt (refine' kmk_add_lit ?F ?N ?a ?b ?e ?_ ?z; (case F => k_asm); (case N => k_asm); (case a => kmk_list); (case b => kmk_list); (case e => kl_lit); (case z => kl_room)); intro D' h' F' N' l1; (try dsimp only))
  k_with "NT compareOp NotEq ref ref" => (k_here; (with_reducible show wpAny _ _ (compareOp CmpOp.NotEq (Value.ref _) (Value.ref _)) _ _ _); k_dflt ((refine ne_dataH (by ke_read) (by ke_read) (by ke_shaped) (by ke_shaped) (by ktr_units) ?_); ke_norm))
  k_with "NT compareOp Eq ref ref" => (k_here; (with_reducible show wpAny _ _ (compareOp CmpOp.Eq (Value.ref _) (Value.ref _)) _ _ _); k_dflt ((refine eq_dataH (by ke_read) (by ke_read) (by ke_shaped) (by ke_shaped) (by ktr_units) ?_); ke_norm))
  k_with "NT exec For Name Name cons nil" => (k_here; (rename Fr _ _ _ _ => lF'); (with_unfolding_all refine' For_invVF lF' ?k1 ?k2 ?_; (case k1 => exact rfl); (case k2 => exact rfl); k_whole))
  k_with "NT exec For Name List cons nil" => (k_here; (rename Fr _ _ _ _ => lF'); (with_unfolding_all refine' For_invVF lF' ?k1 ?k2 ?_; (case k1 => exact rfl); (case k2 => exact rfl); k_whole))
  k_with "NT exec For Name Subscript cons nil" => (k_here; (rename Fr _ _ _ _ => lF'); (with_unfolding_all refine' For_invVF lF' ?k1 ?k2 ?_; (case k1 => exact rfl); (case k2 => exact rfl); k_whole))
  k_with "NT pyIter ref" => (k_here; (with_unfolding_all refine' iter_listUnr ?k0 ?k1 ?k2 ?k3 ?k4 ?k5 ?_; (case k0 => exact rfl); (case k1 => k_asm); (case k2 => k_asm); (case k3 => k_mem); (case k4 => exact rfl); (case k5 => exact rfl); k_whole); intro i9 l9)
  k_with "NT UnrEnd" => (refine UnrEnd.intro (by assumption) (by assumption) _ ?ks (offOf (by assumption)) ⟨?km, ?_⟩; (case ks => ktd_sub); (case km => k_mem))
  k_with "NT ite" => (k_openite; k_dflt (first | (refine ite_pos ?kc ?_; (case kc => first | omega | (simp only [decide_eq_true_eq, decide_eq_false_iff_not, beq_iff_eq, bne_iff_ne, ne_eq, Bool.not_eq_true', Bool.not_eq_false', Bool.and_eq_true, Bool.and_eq_false_iff, Bool.or_eq_true, Bool.not_not]; done) | ((simp only [decide_eq_true_eq, decide_eq_false_iff_not, beq_iff_eq, bne_iff_ne, ne_eq, Bool.not_eq_true', Bool.not_eq_false', Bool.and_eq_true, Bool.and_eq_false_iff, Bool.or_eq_true, Bool.not_not]); omega) | (simp; done))) | (refine ite_neg ?kc ?_; (case kc => first | omega | (simp only [decide_eq_true_eq, decide_eq_false_iff_not, beq_iff_eq, bne_iff_ne, ne_eq, Bool.not_eq_true', Bool.not_eq_false', Bool.and_eq_true, Bool.and_eq_false_iff, Bool.or_eq_true, Bool.not_not]; done) | ((simp only [decide_eq_true_eq, decide_eq_false_iff_not, beq_iff_eq, bne_iff_ne, ne_eq, Bool.not_eq_true', Bool.not_eq_false', Bool.and_eq_true, Bool.and_eq_false_iff, Bool.or_eq_true, Bool.not_not]); omega) | (simp; done)))))
  k_with "NT NTn" => first | assumption | exact NumIn.whole | exact NumIn.mono (by assumption) (by ktd_sub) | exact NumIn.real (by k_mem) (by k_mem) | exact NumIn.ratio (by k_mem) (by k_mem)
  k_with "NT NTt" => first | assumption | exact ⟨_, _, _, _, by k_mem, by k_mem⟩
  k_with "NT NTm" => first | assumption | ktr_member | k_mem
  k_with "NT NTo" => assumption
  k_with "NT NTa" => first | assumption | omega | decide
  k_with "NT binaryOp LShift int int" => (refine lshift_int_small ?kb1 ?kb2 ?kb3 ?_; (case kb1 => walk_at "NTa"); (case kb2 => walk_at "NTa"); (case kb3 => walk_at "NTa"))
  k_with "NT binaryOp Pow int int" => (refine pow_int_small ?kb1 ?kb2 ?kb3 ?_; (case kb1 => walk_at "NTa"); (case kb2 => walk_at "NTa"); (case kb3 => walk_at "NTa"))
  k_with "NT binaryOp RShift int int" => (refine rshift_int ?kb1 ?_; (case kb1 => walk_at "NTa"))
  k_with "NT binaryOp FloorDiv int int" => (refine floordiv_int ?kb1 ?_ (Or.inl (PyProof.noPylong_small ?kb2)); (case kb1 => walk_at "NTa"); (case kb2 => walk_at "NTa"))
  k_with "NT binaryOp Mult int int" => (refine mul_int ?_ ?kb1; rotate_left; (case kb1 => first | exact mulSignOk _ _ | exact IntMulOk.of_left (intBits_le_64 (by walk_at "NTa") (by walk_at "NTa")) | exact IntMulOk.of_right (intBits_le_64 (by walk_at "NTa") (by walk_at "NTa"))))
  k_with "NT call ref" => (k_here; (with_reducible show wpAny _ _ (PySem.call (Value.ref 695) _ _) _ _ _); k_dflt (refine' Does.use (c_low _ _ _ _ _ ?ha ?hb) ?k1 ?k2 ?k3 ?k4 ?k5 ?kK ?kd ?ku ?_; (case k1 => k_asm); (case k2 => k_asm); (case k3 => k_asm); (case k4 => k_asm); (case k5 => k_asm); (case kK => first | exact rfl | assumption); (case kd => ktr_room); (case ku => ktr_units); (case ha => omega); (case hb => omega); intro r9 tl9 h9 tk9 F9 N9 ho9; obtain ⟨a9, p9, q9, u9, v9, e9, hm9, hp9, hq9⟩ := ho9; subst e9; subst hp9; subst hq9; (try dsimp only); (try k_fold)))
  k_with "NT call ref" => (k_here; (with_reducible show wpAny _ _ (PySem.call (Value.ref 96) _ _) _ _ _); k_dflt (refine' Does.use (c_Real _ _ _ _ _) ?k1 ?k2 ?k3 ?k4 ?k5 ?kK ?kd ?ku ?_; (case k1 => k_asm); (case k2 => k_asm); (case k3 => k_asm); (case k4 => k_asm); (case k5 => k_asm); (case kK => first | exact rfl | assumption); (case kd => ktr_room); (case ku => ktr_units);  intro r9 tl9 h9 tk9 F9 N9 ho9; (try dsimp only); (try k_fold)))
  k_with "NT call ref" => (k_here; (with_reducible show wpAny _ _ (PySem.call (Value.ref 264) _ _) _ _ _); k_dflt (refine' Does.use (c_Ratio _ _ _ _ _) ?k1 ?k2 ?k3 ?k4 ?k5 ?kK ?kd ?ku ?_; (case k1 => k_asm); (case k2 => k_asm); (case k3 => k_asm); (case k4 => k_asm); (case k5 => k_asm); (case kK => first | exact rfl | assumption); (case kd => ktr_room); (case ku => ktr_units);  intro r9 tl9 h9 tk9 F9 N9 ho9; (try dsimp only); (try k_fold)))
  k_with "NT call ref" => (k_here; (with_reducible show wpAny _ _ (PySem.call (Value.ref 107) _ _) _ _ _); k_dflt (refine' Does.use (c_size _ _ _) ?k1 ?k2 ?k3 ?k4 ?k5 ?kK ?kd ?ku ?_; (case k1 => k_asm); (case k2 => k_asm); (case k3 => k_asm); (case k4 => k_asm); (case k5 => k_asm); (case kK => first | exact rfl | assumption); (case kd => ktr_room); (case ku => ktr_units);  intro r9 tl9 h9 tk9 F9 N9 ho9; obtain ⟨u9, e9⟩ := ho9; subst e9; (try dsimp only); (try k_fold)))
  k_with "NT call ref" => (k_here; (with_reducible show wpAny _ _ (PySem.call (Value.ref 114) _ _) _ _ _); k_dflt (refine' Does.use (c_sow _ _ _) ?k1 ?k2 ?k3 ?k4 ?k5 ?kK ?kd ?ku ?_; (case k1 => k_asm); (case k2 => k_asm); (case k3 => k_asm); (case k4 => k_asm); (case k5 => k_asm); (case kK => first | exact rfl | assumption); (case kd => ktr_room); (case ku => ktr_units);  intro r9 tl9 h9 tk9 F9 N9 ho9; obtain ⟨u9, e9⟩ := ho9; subst e9; (try dsimp only); (try k_fold)))
  k_with "NT call ref" => (k_here; (with_reducible show wpAny _ _ (PySem.call (Value.ref 121) _ _) _ _ _); k_dflt (refine' Does.use (c_zeros _ _ _ _ _ ?ha) ?k1 ?k2 ?k3 ?k4 ?k5 ?kK ?kd ?ku ?_; (case k1 => k_asm); (case k2 => k_asm); (case k3 => k_asm); (case k4 => k_asm); (case k5 => k_asm); (case kK => first | exact rfl | assumption); (case kd => ktr_room); (case ku => ktr_units); (case ha => assumption); intro r9 tl9 h9 tk9 F9 N9 ho9; obtain ⟨u9, e9⟩ := ho9; subst e9; (try dsimp only); (try k_fold)))
  k_with "NT call ref" => (k_here; (with_reducible show wpAny _ _ (PySem.call (Value.ref 128) _ _) _ _ _); k_dflt (refine' Does.use (c_lean _ _ _ _ _ ?ha ?ha2 ?hb ?hc) ?k1 ?k2 ?k3 ?k4 ?k5 ?kK ?kd ?ku ?_; (case k1 => k_asm); (case k2 => k_asm); (case k3 => k_asm); (case k4 => k_asm); (case k5 => k_asm); (case kK => first | exact rfl | assumption); (case kd => ktr_room); (case ku => ktr_units); (case ha => first | (walk_at "NTa") | exact (signMul (by omega) (by omega)).1); (case ha2 => first | (walk_at "NTa") | exact (signMul (by omega) (by omega)).2); (case hb => (walk_at "NTa")); (case hc => (walk_at "NTa")); intro r9 tl9 h9 tk9 F9 N9 ho9; obtain ⟨m9, e9, hm9, hn9⟩ := ho9; (try dsimp only); (try k_fold)))
  k_with "NT call ref" => (k_here; (with_reducible show wpAny _ _ (PySem.call (Value.ref 135) _ _) _ _ _); k_dflt (refine' Does.use (c_nshift _ _ _ _ _ ?ha ?hb ?hc) ?k1 ?k2 ?k3 ?k4 ?k5 ?kK ?kd ?ku ?_; (case k1 => k_asm); (case k2 => k_asm); (case k3 => k_asm); (case k4 => k_asm); (case k5 => k_asm); (case kK => first | exact rfl | assumption); (case kd => ktr_room); (case ku => ktr_units); (case ha => (walk_at "NTa")); (case hb => (walk_at "NTa")); (case hc => (walk_at "NTa")); intro r9 tl9 h9 tk9 F9 N9 ho9; obtain ⟨R9, u9, e9, hR9, hlo9, hhi9⟩ := ho9; subst e9; (try dsimp only); (try k_fold)))
  k_with "NT call ref" => (k_here; (with_reducible show wpAny _ _ (PySem.call (Value.ref 149) _ _) _ _ _); k_dflt (refine' Does.use (c_sticky _ _ _ _ ?ha ?hb) ?k1 ?k2 ?k3 ?k4 ?k5 ?kK ?kd ?ku ?_; (case k1 => k_asm); (case k2 => k_asm); (case k3 => k_asm); (case k4 => k_asm); (case k5 => k_asm); (case kK => first | exact rfl | assumption); (case kd => ktr_room); (case ku => ktr_units); (case ha => (walk_at "NTa")); (case hb => (walk_at "NTa")); intro r9 tl9 h9 tk9 F9 N9 ho9; obtain ⟨u9, e9⟩ := ho9; subst e9; (try dsimp only); (try k_fold)))
  k_with "NT call ref" => (k_here; (with_reducible show wpAny _ _ (PySem.call (Value.ref 142) _ _) _ _ _); k_dflt (refine' Does.use (c_sround _ _ _ _ _ _ _ ?ha ?hb ?hc ?hd ?he ?hf) ?k1 ?k2 ?k3 ?k4 ?k5 ?kK ?kd ?ku ?_; (case k1 => k_asm); (case k2 => k_asm); (case k3 => k_asm); (case k4 => k_asm); (case k5 => k_asm); (case kK => first | exact rfl | assumption); (case kd => ktr_room); (case ku => ktr_units); (case ha => (walk_at "NTa")); (case hb => (walk_at "NTa")); (case hc => (walk_at "NTa")); (case hd => (walk_at "NTa")); (case he => (walk_at "NTa")); (case hf => (walk_at "NTa")); intro r9 tl9 h9 tk9 F9 N9 ho9; obtain ⟨R9, m9, e9, hm9, hR9, hn9⟩ := ho9; (try dsimp only); (try k_fold)))
  k_with "NT call ref" => (k_here; (with_reducible show wpAny _ _ (PySem.call (Value.ref 156) _ _) _ _ _); k_dflt (refine' Does.use (c_rounded _ _ _ _ _ _ _ ?ha ?hb ?hc ?hd ?he ?hf) ?k1 ?k2 ?k3 ?k4 ?k5 ?kK ?kd ?ku ?_; (case k1 => k_asm); (case k2 => k_asm); (case k3 => k_asm); (case k4 => k_asm); (case k5 => k_asm); (case kK => first | exact rfl | assumption); (case kd => ktr_room); (case ku => ktr_units); (case ha => (walk_at "NTa")); (case hb => (walk_at "NTa")); (case hc => (walk_at "NTa")); (case hd => (walk_at "NTa")); (case he => (walk_at "NTa")); (case hf => (walk_at "NTa")); intro r9 tl9 h9 tk9 F9 N9 ho9; obtain ⟨m9, e9, hm9, hs9⟩ := ho9; (try dsimp only); (try k_fold)))
  k_with "NT call ref" => (k_here; (with_reducible show wpAny _ _ (PySem.call (Value.ref 163) _ _) _ _ _); k_dflt (refine' Does.use (c_exparts _ _ _ _ ?ha ?hb ?hc ?hd ?he) ?k1 ?k2 ?k3 ?k4 ?k5 ?kK ?kd ?ku ?_; (case k1 => k_asm); (case k2 => k_asm); (case k3 => k_asm); (case k4 => k_asm); (case k5 => k_asm); (case kK => first | exact rfl | assumption); (case kd => ktr_room); (case ku => ktr_units); (case ha => (walk_at "NTn")); (case hb => (walk_at "NTa")); (case hc => (walk_at "NTa")); (case hd => (walk_at "NTa")); (case he => (walk_at "NTa")); intro r9 tl9 h9 tk9 F9 N9 ho9; obtain ⟨a9, p9, q9, u9, v9, e9, hm9, hp9, hq9⟩ := ho9; subst e9; subst hp9; subst hq9; (try dsimp only); (try k_fold)))
  k_with "NT call ref" => (k_here; (with_reducible show wpAny _ _ (PySem.call (Value.ref 170) _ _) _ _ _); k_dflt (refine' Does.use (c_place _ _ _ _ ?ha) ?k1 ?k2 ?k3 ?k4 ?k5 ?kK ?kd ?ku ?_; (case k1 => k_asm); (case k2 => k_asm); (case k3 => k_asm); (case k4 => k_asm); (case k5 => k_asm); (case kK => first | exact rfl | assumption); (case kd => ktr_room); (case ku => ktr_units); (case ha => (walk_at "NTn")); intro r9 tl9 h9 tk9 F9 N9 ho9; obtain ⟨u9, e9⟩ := ho9; subst e9; (try dsimp only); (try k_fold)))
  k_with "NT call ref" => (k_here; (with_reducible show wpAny _ _ (PySem.call (Value.ref 177) _ _) _ _ _); k_dflt (refine' Does.use (c_signof _ _ _ _ ?ha) ?k1 ?k2 ?k3 ?k4 ?k5 ?kK ?kd ?ku ?_; (case k1 => k_asm); (case k2 => k_asm); (case k3 => k_asm); (case k4 => k_asm); (case k5 => k_asm); (case kK => first | exact rfl | assumption); (case kd => ktr_room); (case ku => ktr_units); (case ha => (walk_at "NTn")); intro r9 tl9 h9 tk9 F9 N9 ho9; obtain ⟨u9, e9⟩ := ho9; subst e9; (try dsimp only); (try k_fold)))
  k_with "NT call ref" => (k_here; (with_reducible show wpAny _ _ (PySem.call (Value.ref 184) _ _) _ _ _); k_dflt (refine' Does.use (c_negative _ _ _ _ ?ha) ?k1 ?k2 ?k3 ?k4 ?k5 ?kK ?kd ?ku ?_; (case k1 => k_asm); (case k2 => k_asm); (case k3 => k_asm); (case k4 => k_asm); (case k5 => k_asm); (case kK => first | exact rfl | assumption); (case kd => ktr_room); (case ku => ktr_units); (case ha => (walk_at "NTn")); intro r9 tl9 h9 tk9 F9 N9 ho9; (try dsimp only); (try k_fold)))
  k_with "NT call ref" => (k_here; (with_reducible show wpAny _ _ (PySem.call (Value.ref 191) _ _) _ _ _); k_dflt (refine' Does.use (c_magnitude _ _ _ _ ?ha) ?k1 ?k2 ?k3 ?k4 ?k5 ?kK ?kd ?ku ?_; (case k1 => k_asm); (case k2 => k_asm); (case k3 => k_asm); (case k4 => k_asm); (case k5 => k_asm); (case kK => first | exact rfl | assumption); (case kd => ktr_room); (case ku => ktr_units); (case ha => (walk_at "NTn")); intro r9 tl9 h9 tk9 F9 N9 ho9; (try dsimp only); (try k_fold)))
  k_with "NT call ref" => (k_here; (with_reducible show wpAny _ _ (PySem.call (Value.ref 198) _ _) _ _ _); k_dflt (refine' Does.use (c_same _ _ _ _ _ _ _ ?ha ?hb) ?k1 ?k2 ?k3 ?k4 ?k5 ?kK ?kd ?ku ?_; (case k1 => k_asm); (case k2 => k_asm); (case k3 => k_asm); (case k4 => k_asm); (case k5 => k_asm); (case kK => first | exact rfl | assumption); (case kd => ktr_room); (case ku => ktr_units); (case ha => (walk_at "NTn")); (case hb => (walk_at "NTn")); intro r9 tl9 h9 tk9 F9 N9 ho9; (have e9 : _ = _ := ho9); clear ho9; subst e9; (try dsimp only); (try k_fold)))
  k_with "NT call ref" => (k_here; (with_reducible show wpAny _ _ (PySem.call (Value.ref 205) _ _) _ _ _); k_dflt (refine' Does.use (c_cmpmag _ _ _ _ _ _ _ ?ha ?hb ?hc ?hd ?he ?hf ?hg ?hh ?hi ?hj) ?k1 ?k2 ?k3 ?k4 ?k5 ?kK ?kd ?ku ?_; (case k1 => k_asm); (case k2 => k_asm); (case k3 => k_asm); (case k4 => k_asm); (case k5 => k_asm); (case kK => first | exact rfl | assumption); (case kd => ktr_room); (case ku => ktr_units); (case ha => (walk_at "NTn")); (case hb => (walk_at "NTn")); (case hc => (walk_at "NTa")); (case hd => (walk_at "NTa")); (case he => (walk_at "NTa")); (case hf => (walk_at "NTa")); (case hg => (walk_at "NTa")); (case hh => (walk_at "NTa")); (case hi => (walk_at "NTa")); (case hj => (walk_at "NTa")); intro r9 tl9 h9 tk9 F9 N9 ho9; obtain ⟨u9, e9⟩ := ho9; subst e9; (try dsimp only); (try k_fold)))
  k_with "NT call ref" => (k_here; (with_reducible show wpAny _ _ (PySem.call (Value.ref 212) _ _) _ _ _); k_dflt (refine' Does.use (c_cmpreals _ _ _ _ _ _ _ ?ha ?hb ?hc ?hd ?he ?hf ?hg ?hh ?hi ?hj) ?k1 ?k2 ?k3 ?k4 ?k5 ?kK ?kd ?ku ?_; (case k1 => k_asm); (case k2 => k_asm); (case k3 => k_asm); (case k4 => k_asm); (case k5 => k_asm); (case kK => first | exact rfl | assumption); (case kd => ktr_room); (case ku => ktr_units); (case ha => (walk_at "NTn")); (case hb => (walk_at "NTn")); (case hc => (walk_at "NTa")); (case hd => (walk_at "NTa")); (case he => (walk_at "NTa")); (case hf => (walk_at "NTa")); (case hg => (walk_at "NTa")); (case hh => (walk_at "NTa")); (case hi => (walk_at "NTa")); (case hj => (walk_at "NTa")); intro r9 tl9 h9 tk9 F9 N9 ho9; obtain ⟨u9, e9⟩ := ho9; subst e9; (try dsimp only); (try k_fold)))
  k_with "NT call ref" => (k_here; (with_reducible show wpAny _ _ (PySem.call (Value.ref 219) _ _) _ _ _); k_dflt (refine' Does.use (c_fullm _ _ _ _ _ _ ?ha ?hb ?hc ?hd ?he) ?k1 ?k2 ?k3 ?k4 ?k5 ?kK ?kd ?ku ?_; (case k1 => k_asm); (case k2 => k_asm); (case k3 => k_asm); (case k4 => k_asm); (case k5 => k_asm); (case kK => first | exact rfl | assumption); (case kd => ktr_room); (case ku => ktr_units); (case ha => (walk_at "NTn")); (case hb => (walk_at "NTa")); (case hc => (walk_at "NTa")); (case hd => (walk_at "NTa")); (case he => (walk_at "NTa")); intro r9 tl9 h9 tk9 F9 N9 ho9; obtain ⟨a9, P9, u9, v9, e9, hm9, hP9⟩ := ho9; subst e9; subst hP9; (try dsimp only); (try k_fold)))
  k_with "NT call ref" => (k_here; (with_reducible show wpAny _ _ (PySem.call (Value.ref 226) _ _) _ _ _); k_dflt (refine' Does.use (c_farther _ _ _ _ _ _ ?ha ?hb ?hc ?hd ?he ?hf ?hg ?hh ?hi) ?k1 ?k2 ?k3 ?k4 ?k5 ?kK ?kd ?ku ?_; (case k1 => k_asm); (case k2 => k_asm); (case k3 => k_asm); (case k4 => k_asm); (case k5 => k_asm); (case kK => first | exact rfl | assumption); (case kd => ktr_room); (case ku => ktr_units); (case ha => (walk_at "NTn")); (case hb => (walk_at "NTa")); (case hc => (walk_at "NTa")); (case hd => (walk_at "NTa")); (case he => (walk_at "NTa")); (case hf => (walk_at "NTa")); (case hg => (walk_at "NTa")); (case hh => (walk_at "NTa")); (case hi => (walk_at "NTa")); intro r9 tl9 h9 tk9 F9 N9 ho9; obtain ⟨m9, e9, hm9, hn9⟩ := ho9; (try dsimp only); (try k_fold)))
  k_with "NT call ref" => (k_here; (with_reducible show wpAny _ _ (PySem.call (Value.ref 233) _ _) _ _ _); k_dflt (refine' Does.use (c_nearer _ _ _ _ _ _ ?ha ?hb ?hc ?hd ?he ?hf ?hg ?hh ?hi) ?k1 ?k2 ?k3 ?k4 ?k5 ?kK ?kd ?ku ?_; (case k1 => k_asm); (case k2 => k_asm); (case k3 => k_asm); (case k4 => k_asm); (case k5 => k_asm); (case kK => first | exact rfl | assumption); (case kd => ktr_room); (case ku => ktr_units); (case ha => (walk_at "NTn")); (case hb => (walk_at "NTa")); (case hc => (walk_at "NTa")); (case hd => (walk_at "NTa")); (case he => (walk_at "NTa")); (case hf => (walk_at "NTa")); (case hg => (walk_at "NTa")); (case hh => (walk_at "NTa")); (case hi => (walk_at "NTa")); intro r9 tl9 h9 tk9 F9 N9 ho9; obtain ⟨m9, e9, hm9, hn9⟩ := ho9; (try dsimp only); (try k_fold)))
  k_with "NT call ref" => (k_here; (with_reducible show wpAny _ _ (PySem.call (Value.ref 240) _ _) _ _ _); k_dflt (refine' Does.use (c_above _ _ _ _ _ _ ?ha ?hb ?hc ?hd ?he ?hf ?hg ?hh ?hi) ?k1 ?k2 ?k3 ?k4 ?k5 ?kK ?kd ?ku ?_; (case k1 => k_asm); (case k2 => k_asm); (case k3 => k_asm); (case k4 => k_asm); (case k5 => k_asm); (case kK => first | exact rfl | assumption); (case kd => ktr_room); (case ku => ktr_units); (case ha => (walk_at "NTn")); (case hb => (walk_at "NTa")); (case hc => (walk_at "NTa")); (case hd => (walk_at "NTa")); (case he => (walk_at "NTa")); (case hf => (walk_at "NTa")); (case hg => (walk_at "NTa")); (case hh => (walk_at "NTa")); (case hi => (walk_at "NTa")); intro r9 tl9 h9 tk9 F9 N9 ho9; obtain ⟨m9, e9, hm9, hn9⟩ := ho9; (try dsimp only); (try k_fold)))
  k_with "NT call ref" => (k_here; (with_reducible show wpAny _ _ (PySem.call (Value.ref 247) _ _) _ _ _); k_dflt (refine' Does.use (c_below _ _ _ _ _ _ ?ha ?hb ?hc ?hd ?he ?hf ?hg ?hh ?hi) ?k1 ?k2 ?k3 ?k4 ?k5 ?kK ?kd ?ku ?_; (case k1 => k_asm); (case k2 => k_asm); (case k3 => k_asm); (case k4 => k_asm); (case k5 => k_asm); (case kK => first | exact rfl | assumption); (case kd => ktr_room); (case ku => ktr_units); (case ha => (walk_at "NTn")); (case hb => (walk_at "NTa")); (case hc => (walk_at "NTa")); (case hd => (walk_at "NTa")); (case he => (walk_at "NTa")); (case hf => (walk_at "NTa")); (case hg => (walk_at "NTa")); (case hh => (walk_at "NTa")); (case hi => (walk_at "NTa")); intro r9 tl9 h9 tk9 F9 N9 ho9; obtain ⟨m9, e9, hm9, hn9⟩ := ho9; (try dsimp only); (try k_fold)))
  k_with "NT call builtin:isinstance" => (k_here; (with_reducible show wpAny _ _ (PySem.call (Value.builtin "isinstance") [_, Value.ref 96]) _ _ _); k_dflt (refine' isi_num ?k1 ?k2 ?k3 ?k4 ?k5 ?_; (case k1 => k_asm); (case k2 => k_asm); (case k3 => k_asm); (case k4 => walk_at "NTn"); (case k5 => first | assumption | exact rfl); k_whole; intro tk9; (try dsimp only [Num.isReal])))
  k_with "NT call ref" => (k_here; (with_reducible show wpAny _ _ (PySem.call (Value.ref 345) _ _) _ _ _); k_dflt (refine' Does.use (c_isinexact _ _ _ ?ha) ?k1 ?k2 ?k3 ?k4 ?k5 ?kK ?kd ?ku ?_; (case k1 => k_asm); (case k2 => k_asm); (case k3 => k_asm); (case k4 => k_asm); (case k5 => k_asm); (case kK => first | exact rfl | assumption); (case kd => ktr_room); (case ku => ktr_units); (case ha => (walk_at "NTn")); intro r9 tl9 h9 tk9 F9 N9 ho9; (have e9 : _ = _ := ho9); clear ho9; subst e9; (try dsimp only); (try k_fold)))
  k_with "NT call ref" => (k_here; (with_reducible show wpAny _ _ (PySem.call (Value.ref 282) _ _) _ _ _); k_dflt (refine' Does.use (c_isexact _ _ _ ?ha) ?k1 ?k2 ?k3 ?k4 ?k5 ?kK ?kd ?ku ?_; (case k1 => k_asm); (case k2 => k_asm); (case k3 => k_asm); (case k4 => k_asm); (case k5 => k_asm); (case kK => first | exact rfl | assumption); (case kd => ktr_room); (case ku => ktr_units); (case ha => (walk_at "NTn")); intro r9 tl9 h9 tk9 F9 N9 ho9; (have e9 : _ = _ := ho9); clear ho9; subst e9; (try dsimp only); (try k_fold)))
  k_with "NT call ref" => (k_here; (with_reducible show wpAny _ _ (PySem.call (Value.ref 289) _ _) _ _ _); k_dflt (refine' Does.use (c_topof _ _ _ ?ha ?hb) ?k1 ?k2 ?k3 ?k4 ?k5 ?kK ?kd ?ku ?_; (case k1 => k_asm); (case k2 => k_asm); (case k3 => k_asm); (case k4 => k_asm); (case k5 => k_asm); (case kK => first | exact rfl | assumption); (case kd => ktr_room); (case ku => ktr_units); (case ha => (walk_at "NTn")); (case hb => first | assumption | rfl); intro r9 tl9 h9 tk9 F9 N9 ho9; obtain ⟨u9, e9⟩ := ho9; subst e9; (try dsimp only); (try k_fold)))
  k_with "NT call ref" => (k_here; (with_reducible show wpAny _ _ (PySem.call (Value.ref 296) _ _) _ _ _); k_dflt (refine' Does.use (c_bottomof _ _ _ ?ha ?hb) ?k1 ?k2 ?k3 ?k4 ?k5 ?kK ?kd ?ku ?_; (case k1 => k_asm); (case k2 => k_asm); (case k3 => k_asm); (case k4 => k_asm); (case k5 => k_asm); (case kK => first | exact rfl | assumption); (case kd => ktr_room); (case ku => ktr_units); (case ha => (walk_at "NTn")); (case hb => first | assumption | rfl); intro r9 tl9 h9 tk9 F9 N9 ho9; obtain ⟨u9, e9⟩ := ho9; subst e9; (try dsimp only); (try k_fold)))
  k_with "NT call ref" => (k_here; (with_reducible show wpAny _ _ (PySem.call (Value.ref 177) _ _) _ _ _); k_dflt (refine' Does.use (c_signof' _ _ _ ?ha ?hb) ?k1 ?k2 ?k3 ?k4 ?k5 ?kK ?kd ?ku ?_; (case k1 => k_asm); (case k2 => k_asm); (case k3 => k_asm); (case k4 => k_asm); (case k5 => k_asm); (case kK => first | exact rfl | assumption); (case kd => ktr_room); (case ku => ktr_units); (case ha => (walk_at "NTn")); (case hb => first | assumption | rfl); intro r9 tl9 h9 tk9 F9 N9 ho9; obtain ⟨u9, e9⟩ := ho9; subst e9; (try dsimp only); (try k_fold)))
  k_with "NT call ref" => (k_here; (with_reducible show wpAny _ _ (PySem.call (Value.ref 212) _ _) _ _ _); k_dflt (refine' Does.use (c_cmpreals' _ _ _ _ _ _ ?ha ?hb ?hc ?hd ?he ?hf ?hg) ?k1 ?k2 ?k3 ?k4 ?k5 ?kK ?kd ?ku ?_; (case k1 => k_asm); (case k2 => k_asm); (case k3 => k_asm); (case k4 => k_asm); (case k5 => k_asm); (case kK => first | exact rfl | assumption); (case kd => ktr_room); (case ku => ktr_units); (case ha => (walk_at "NTn")); (case hb => (walk_at "NTn")); (case hc => first | assumption | rfl); (case hd => first | assumption | rfl); (case he => (walk_at "NTa")); (case hf => (walk_at "NTo")); (case hg => (walk_at "NTo")); intro r9 tl9 h9 tk9 F9 N9 ho9; obtain ⟨u9, e9⟩ := ho9; subst e9; (try dsimp only); (try k_fold)))
  k_with "NT call ref" => (k_here; (with_reducible show wpAny _ _ (PySem.call (Value.ref 198) _ _) _ _ _); k_dflt (refine' Does.use (c_same' _ _ _ _ _ _ ?ha ?hb ?hc ?hd ?hf ?hg) ?k1 ?k2 ?k3 ?k4 ?k5 ?kK ?kd ?ku ?_; (case k1 => k_asm); (case k2 => k_asm); (case k3 => k_asm); (case k4 => k_asm); (case k5 => k_asm); (case kK => first | exact rfl | assumption); (case kd => ktr_room); (case ku => ktr_units); (case ha => (walk_at "NTn")); (case hb => (walk_at "NTn")); (case hc => first | assumption | rfl); (case hd => first | assumption | rfl); (case hf => (walk_at "NTo")); (case hg => (walk_at "NTo")); intro r9 tl9 h9 tk9 F9 N9 ho9; (have e9 : _ = _ := ho9); clear ho9; subst e9; (try dsimp only); (try k_fold)))
  k_with "NT call ref" => (k_here; (with_reducible show wpAny _ _ (PySem.call (Value.ref 163) _ _) _ _ _); k_dflt (refine' Does.use (c_exparts' _ _ _ _ ?ha ?hb ?hc ?hd) ?k1 ?k2 ?k3 ?k4 ?k5 ?kK ?kd ?ku ?_; (case k1 => k_asm); (case k2 => k_asm); (case k3 => k_asm); (case k4 => k_asm); (case k5 => k_asm); (case kK => first | exact rfl | assumption); (case kd => ktr_room); (case ku => ktr_units); (case ha => (walk_at "NTn")); (case hb => first | assumption | rfl); (case hc => (walk_at "NTa")); (case hd => (walk_at "NTo")); intro r9 tl9 h9 tk9 F9 N9 ho9; obtain ⟨a9, p9, q9, u9, v9, e9, hm9, hp9, hq9⟩ := ho9; subst e9; subst hp9; subst hq9; (try dsimp only); (try k_fold)))
  k_with "NT call ref" => (k_here; (with_reducible show wpAny _ _ (PySem.call (Value.ref 352) _ _) _ _ _); k_dflt (refine' Does.use (c_sign _ _ _ ?ha) ?k1 ?k2 ?k3 ?k4 ?k5 ?kK ?kd ?ku ?_; (case k1 => k_asm); (case k2 => k_asm); (case k3 => k_asm); (case k4 => k_asm); (case k5 => k_asm); (case kK => first | exact rfl | assumption); (case kd => ktr_room); (case ku => ktr_units); (case ha => (walk_at "NTn")); intro r9 tl9 h9 tk9 F9 N9 ho9; obtain ⟨u9, e9⟩ := ho9; subst e9; (try dsimp only); (try k_fold)))
  k_with "NT call ref" => (k_here; (with_reducible show wpAny _ _ (PySem.call (Value.ref 331) _ _) _ _ _); k_dflt (refine' Does.use (c_cmpexact _ _ _ _ _ ?ha ?hb ?hc ?hd ?he ?hf ?hg ?hh) ?k1 ?k2 ?k3 ?k4 ?k5 ?kK ?kd ?ku ?_; (case k1 => k_asm); (case k2 => k_asm); (case k3 => k_asm); (case k4 => k_asm); (case k5 => k_asm); (case kK => first | exact rfl | assumption); (case kd => ktr_room); (case ku => ktr_units); (case ha => (walk_at "NTn")); (case hb => (walk_at "NTn")); (case hc => first | assumption | rfl | exact ex_isReal _); (case hd => first | assumption | rfl | exact ex_isReal _); (case he => (walk_at "NTa")); (case hf => (walk_at "NTa")); (case hg => (walk_at "NTa")); (case hh => (walk_at "NTa")); intro r9 tl9 h9 tk9 F9 N9 ho9; obtain ⟨u9, e9⟩ := ho9; subst e9; (try dsimp only); (try k_fold)))
  k_with "NT call ref" => (k_here; (with_reducible show wpAny _ _ (PySem.call (Value.ref 338) _ _) _ _ _); k_dflt (refine' Does.use (c_eqexact _ _ _ _ _ _ ?ha ?hb ?hc ?hd ?hf ?hg) ?k1 ?k2 ?k3 ?k4 ?k5 ?kK ?kd ?ku ?_; (case k1 => k_asm); (case k2 => k_asm); (case k3 => k_asm); (case k4 => k_asm); (case k5 => k_asm); (case kK => first | exact rfl | assumption); (case kd => ktr_room); (case ku => ktr_units); (case ha => (walk_at "NTn")); (case hb => (walk_at "NTn")); (case hc => first | assumption | rfl); (case hd => first | assumption | rfl); (case hf => (walk_at "NTo")); (case hg => (walk_at "NTo")); intro r9 tl9 h9 tk9 F9 N9 ho9; (have e9 : _ = _ := ho9); clear ho9; subst e9; (try dsimp only); (try k_fold)))
  k_with "NT call ref" => (k_here; (with_reducible show wpAny _ _ (PySem.call (Value.ref 303) _ _) _ _ _); k_dflt (refine' Does.use (c_gcdof _ _ _ _ _) ?k1 ?k2 ?k3 ?k4 ?k5 ?kK ?kd ?ku ?_; (case k1 => k_asm); (case k2 => k_asm); (case k3 => k_asm); (case k4 => k_asm); (case k5 => k_asm); (case kK => first | exact rfl | assumption); (case kd => ktr_room); (case ku => ktr_units);  intro r9 tl9 h9 tk9 F9 N9 ho9; obtain ⟨u9, e9⟩ := ho9; subst e9; (try dsimp only); (try k_fold)))
  k_with "NT call ref" => (k_here; (with_reducible show wpAny _ _ (PySem.call (Value.ref 317) _ _) _ _ _); k_dflt (refine' Does.use (c_ratioof _ _ _ _ _ ?ha ?hb) ?k1 ?k2 ?k3 ?k4 ?k5 ?kK ?kd ?ku ?_; (case k1 => k_asm); (case k2 => k_asm); (case k3 => k_asm); (case k4 => k_asm); (case k5 => k_asm); (case kK => first | exact rfl | assumption); (case kd => ktr_room); (case ku => ktr_units); (case ha => (walk_at "NTa")); (case hb => (walk_at "NTa")); intro r9 tl9 h9 tk9 F9 N9 ho9; (try dsimp only); (try k_fold)))
  k_with "NT call ref" => (k_here; (with_reducible show wpAny _ _ (PySem.call (Value.ref 359) _ _) _ _ _); k_dflt (refine' Does.use (c_toexact _ _ _ _ ?ha ?hb ?hc) ?k1 ?k2 ?k3 ?k4 ?k5 ?kK ?kd ?ku ?_; (case k1 => k_asm); (case k2 => k_asm); (case k3 => k_asm); (case k4 => k_asm); (case k5 => k_asm); (case kK => first | exact rfl | assumption); (case kd => ktr_room); (case ku => ktr_units); (case ha => (walk_at "NTn")); (case hb => (walk_at "NTa")); (case hc => (walk_at "NTo")); intro r9 tl9 h9 tk9 F9 N9 ho9; (try dsimp only); (try k_fold)))
  k_with "NT call ref" => (k_here; (with_reducible show wpAny _ _ (PySem.call (Value.ref 366) _ _) _ _ _); k_dflt (refine' Does.use (c_toinexact _ _ _ _ _ ?ha ?hb ?hc ?hd) ?k1 ?k2 ?k3 ?k4 ?k5 ?kK ?kd ?ku ?_; (case k1 => k_asm); (case k2 => k_asm); (case k3 => k_asm); (case k4 => k_asm); (case k5 => k_asm); (case kK => first | exact rfl | assumption); (case kd => ktr_room); (case ku => ktr_units); (case ha => (walk_at "NTn")); (case hb => (walk_at "NTa")); (case hc => (walk_at "NTa")); (case hd => (walk_at "NTo")); intro r9 tl9 h9 tk9 F9 N9 ho9; obtain ⟨m9, e9, hm9, hs9, ho9⟩ := ho9; (try dsimp only); (try k_fold)))
  k_with "NT call ref" => (k_here; (with_reducible show wpAny _ _ (PySem.call (Value.ref 387) _ _) _ _ _); k_dflt (refine' Does.use (c_compare _ _ _ _ _ _ ?ha ?hb ?hc ?hd ?he) ?k1 ?k2 ?k3 ?k4 ?k5 ?kK ?kd ?ku ?_; (case k1 => k_asm); (case k2 => k_asm); (case k3 => k_asm); (case k4 => k_asm); (case k5 => k_asm); (case kK => first | exact rfl | assumption); (case kd => ktr_room); (case ku => ktr_units); (case ha => (walk_at "NTn")); (case hb => (walk_at "NTn")); (case hc => (walk_at "NTa")); (case hd => (walk_at "NTo")); (case he => (walk_at "NTo")); intro r9 tl9 h9 tk9 F9 N9 ho9; obtain ⟨u9, e9⟩ := ho9; subst e9; (try dsimp only); (try k_fold)))
  k_with "NT call ref" => (k_here; (with_reducible show wpAny _ _ (PySem.call (Value.ref 394) _ _) _ _ _); k_dflt (refine' Does.use (c_samenum _ _ _ _ _ _ ?ha ?hb ?hc ?hd) ?k1 ?k2 ?k3 ?k4 ?k5 ?kK ?kd ?ku ?_; (case k1 => k_asm); (case k2 => k_asm); (case k3 => k_asm); (case k4 => k_asm); (case k5 => k_asm); (case kK => first | exact rfl | assumption); (case kd => ktr_room); (case ku => ktr_units); (case ha => (walk_at "NTn")); (case hb => (walk_at "NTn")); (case hc => (walk_at "NTo")); (case hd => (walk_at "NTo")); intro r9 tl9 h9 tk9 F9 N9 ho9; (have e9 : _ = _ := ho9); clear ho9; subst e9; (try dsimp only); (try k_fold)))
  k_with "NT call ref" => (k_here; (with_reducible show wpAny _ _ (PySem.call (Value.ref 373) _ _) _ _ _); k_dflt (refine' Does.use (c_hasinexact _ _ _ _ _ _ ?hl ?ha ?hb) ?k1 ?k2 ?k3 ?k4 ?k5 ?kK ?kd ?ku ?_; (case k1 => k_asm); (case k2 => k_asm); (case k3 => k_asm); (case k4 => k_asm); (case k5 => k_asm); (case kK => first | exact rfl | assumption); (case kd => ktr_room); (case ku => ktr_units); (case hl => walk_at "NTm"); (case ha => (walk_at "NTn")); (case hb => (walk_at "NTn")); intro r9 tl9 h9 tk9 F9 N9 ho9; (have e9 : _ = _ := ho9); clear ho9; subst e9; (try dsimp only); (try k_fold)))
  k_with "NT call ref" => (k_here; (with_reducible show wpAny _ _ (PySem.call (Value.ref 380) _ _) _ _ _); k_dflt (refine' Does.use (c_asof _ _ _ _ _ _ _ _ _ _ ?hl ?ha ?hb ?hc ?hd ?he ?hf) ?k1 ?k2 ?k3 ?k4 ?k5 ?kK ?kd ?ku ?_; (case k1 => k_asm); (case k2 => k_asm); (case k3 => k_asm); (case k4 => k_asm); (case k5 => k_asm); (case kK => first | exact rfl | assumption); (case kd => ktr_room); (case ku => ktr_units); (case hl => walk_at "NTm"); (case ha => (walk_at "NTn")); (case hb => (walk_at "NTn")); (case hc => (walk_at "NTn")); (case hd => (walk_at "NTa")); (case he => (walk_at "NTa")); (case hf => (walk_at "NTo")); intro r9 tl9 h9 tk9 F9 N9 ho9; obtain ⟨z9, hz9, hk9⟩ := ho9; (try dsimp only); (try k_fold)))
  k_with "NT call ref" => (k_here; (with_reducible show wpAny _ _ (PySem.call (Value.ref 583) _ _) _ _ _); k_dflt (refine' Does.use (c_greatest _ _ _ _ _ _ _ _ ?ht ?hl ?ha ?hb ?hc ?hd ?he ?hf) ?k1 ?k2 ?k3 ?k4 ?k5 ?kK ?kd ?ku ?_; (case k1 => k_asm); (case k2 => k_asm); (case k3 => k_asm); (case k4 => k_asm); (case k5 => k_asm); (case kK => first | exact rfl | assumption); (case kd => ktr_room); (case ku => ktr_units); (case ht => walk_at "NTt"); (case hl => walk_at "NTm"); (case ha => (walk_at "NTn")); (case hb => (walk_at "NTn")); (case hc => (walk_at "NTa")); (case hd => (walk_at "NTa")); (case he => (walk_at "NTo")); (case hf => (walk_at "NTo")); intro r9 tl9 h9 tk9 F9 N9 ho9; obtain ⟨z9, hz9, hk9⟩ := ho9; (try dsimp only); (try k_fold)))
  k_with "NT call ref" => (k_here; (with_reducible show wpAny _ _ (PySem.call (Value.ref 590) _ _) _ _ _); k_dflt (refine' Does.use (c_least _ _ _ _ _ _ _ _ ?ht ?hl ?ha ?hb ?hc ?hd ?he ?hf) ?k1 ?k2 ?k3 ?k4 ?k5 ?kK ?kd ?ku ?_; (case k1 => k_asm); (case k2 => k_asm); (case k3 => k_asm); (case k4 => k_asm); (case k5 => k_asm); (case kK => first | exact rfl | assumption); (case kd => ktr_room); (case ku => ktr_units); (case ht => walk_at "NTt"); (case hl => walk_at "NTm"); (case ha => (walk_at "NTn")); (case hb => (walk_at "NTn")); (case hc => (walk_at "NTa")); (case hd => (walk_at "NTa")); (case he => (walk_at "NTo")); (case hf => (walk_at "NTo")); intro r9 tl9 h9 tk9 F9 N9 ho9; obtain ⟨z9, hz9, hk9⟩ := ho9; (try dsimp only); (try k_fold)))
  k_with "NT call ref" => (k_here; (with_reducible show wpAny _ _ (PySem.call (Value.ref 716) _ _) _ _ _); k_dflt (refine' Does.use (c_lfrac _ _ _ _ ?ha ?hb ?hc) ?k1 ?k2 ?k3 ?k4 ?k5 ?kK ?kd ?ku ?_; (case k1 => k_asm); (case k2 => k_asm); (case k3 => k_asm); (case k4 => k_asm); (case k5 => k_asm); (case kK => first | exact rfl | assumption); (case kd => ktr_room); (case ku => ktr_units); (case ha => (walk_at "NTn")); (case hb => (walk_at "NTa")); (case hc => (walk_at "NTo")); intro r9 tl9 h9 tk9 F9 N9 ho9; obtain ⟨a9, s9, q9, u9, w9, e9, hm9, hp9, hq9⟩ := ho9; subst e9; subst hp9; subst hq9; (try dsimp only); (try k_fold)))
  k_with "NT call ref" => (k_here; (with_reducible show wpAny _ _ (PySem.call (Value.ref 737) _ _) _ _ _); k_dflt (refine' Does.use (c_lless _ _ _ _ _ _ ?ha ?hb ?hc ?hd ?he) ?k1 ?k2 ?k3 ?k4 ?k5 ?kK ?kd ?ku ?_; (case k1 => k_asm); (case k2 => k_asm); (case k3 => k_asm); (case k4 => k_asm); (case k5 => k_asm); (case kK => first | exact rfl | assumption); (case kd => ktr_room); (case ku => ktr_units); (case ha => (walk_at "NTn")); (case hb => (walk_at "NTn")); (case hc => (walk_at "NTa")); (case hd => (walk_at "NTo")); (case he => (walk_at "NTo")); intro r9 tl9 h9 tk9 F9 N9 ho9; obtain ⟨u9, e9⟩ := ho9; subst e9; (try dsimp only); (try k_fold)))
  k_with "NT call ref" => (k_here; (with_reducible show wpAny _ _ (PySem.call (Value.ref 723) _ _) _ _ _); k_dflt (refine' Does.use (c_lshownR _ _ _ _ ?ha) ?k1 ?k2 ?k3 ?k4 ?k5 ?kK ?kd ?ku ?_; (case k1 => k_asm); (case k2 => k_asm); (case k3 => k_asm); (case k4 => k_asm); (case k5 => k_asm); (case kK => first | exact rfl | assumption); (case kd => ktr_room); (case ku => ktr_units); (case ha => (walk_at "NTn")); intro r9 tl9 h9 tk9 F9 N9 ho9; obtain ⟨a9, u9, v9, w9, e9, hm9⟩ := ho9; subst e9; (try dsimp only); (try k_fold)))
  k_with "NT call ref" => (k_here; (with_reducible show wpAny _ _ (PySem.call (Value.ref 723) _ _) _ _ _); k_dflt (refine' Does.use (c_lshownE _ _ _ ?ha ?hb) ?k1 ?k2 ?k3 ?k4 ?k5 ?kK ?kd ?ku ?_; (case k1 => k_asm); (case k2 => k_asm); (case k3 => k_asm); (case k4 => k_asm); (case k5 => k_asm); (case kK => first | exact rfl | assumption); (case kd => ktr_room); (case ku => ktr_units); (case ha => (walk_at "NTn")); (case hb => first | assumption | exact ex_isReal _ | rfl); intro r9 tl9 h9 tk9 F9 N9 ho9; obtain ⟨a9, u9, v9, w9, e9, hm9⟩ := ho9; subst e9; (try dsimp only); (try k_fold)))
  k_with "NT call ref" => (k_here; (with_reducible show wpAny _ _ (PySem.call (Value.ref 709) _ _) _ _ _); k_dflt (refine' Does.use (c_lreal _ _ _ _ _) ?k1 ?k2 ?k3 ?k4 ?k5 ?kK ?kd ?ku ?_; (case k1 => k_asm); (case k2 => k_asm); (case k3 => k_asm); (case k4 => k_asm); (case k5 => k_asm); (case kK => first | exact rfl | assumption); (case kd => ktr_room); (case ku => ktr_units);  intro r9 tl9 h9 tk9 F9 N9 ho9; obtain ⟨m9, e9, hm9, hn9⟩ := ho9; (try dsimp only); (try k_fold)))
  k_with "NT call ref" => (k_here; (with_reducible show wpAny _ _ (PySem.call (Value.ref 702) _ _) _ _ _); k_dflt (refine' Does.use (c_lnear _ _ _ _ _ _ _ ?ha ?hb ?hc ?hd ?he ?hf) ?k1 ?k2 ?k3 ?k4 ?k5 ?kK ?kd ?ku ?_; (case k1 => k_asm); (case k2 => k_asm); (case k3 => k_asm); (case k4 => k_asm); (case k5 => k_asm); (case kK => first | exact rfl | assumption); (case kd => ktr_room); (case ku => ktr_units); (case ha => (walk_at "NTa")); (case hb => (walk_at "NTa")); (case hc => (walk_at "NTa")); (case hd => (walk_at "NTa")); (case he => (walk_at "NTa")); (case hf => (walk_at "NTa")); intro r9 tl9 h9 tk9 F9 N9 ho9; obtain ⟨a9, m9, e9, u9, w9, q9, hm9, hs9⟩ := ho9; subst q9; (try dsimp only); (try k_fold)))
  k_with "exec While Compare cons nil" => refine NT.Halt.out ?_
  k_with "state" => first
    | exact grow_start hb
    | exact grow_turn hp1 (by assumption) (by assumption)
    | exact twos_start (by omega)
    | exact twos_turn (by assumption) (by assumption)
  k_with "measure" => first
    | exact grow_meas hm (by assumption) (by assumption)
    | exact twos_meas (by assumption) (by assumption)
  k_steps
  refine Halt.put ?_
  k_while (fun _ mm ee => GrowInv p m e mm ee) (fun _ mm _ => ((2 : Int) ^ (p - 1).toNat - (mm.natAbs : Int)).toNat) "mantissa" "exponent"
  k_steps
  · refine Halt.put ?_
    have g := grow_end hp1 hp2 hm hb (by assumption) (by assumption)
    have g5 := g.big
    have g6 := g.small
    k_while_given ["mantissa!", "exponent!"] (fun M0 E0 _ mm ee => TwosInv M0 E0 mm ee) (fun M0 E0 _ mm _ => mm.natAbs) "mantissa" "exponent"
    k_steps
    refine' ret_all hret (by assumption) (by assumption) (by ktd_sub) ⟨_, _, _, _, _, _, rfl, ?hm, next_A g (by assumption) (bne_iff_ne.mp (by assumption)) (twos_end (by assumption) (by assumption))⟩
    case hm => k_mem
  · refine Halt.put ?_
    have g := grow_end hp1 hp2 hm hb (by assumption) (by assumption)
    have g5 := g.big
    have g6 := g.small
    k_while_given ["mantissa!", "exponent!"] (fun M0 E0 _ mm ee => TwosInv M0 E0 mm ee) (fun M0 E0 _ mm _ => mm.natAbs) "mantissa" "exponent"
    k_steps
    refine' ret_all hret (by assumption) (by assumption) (by ktd_sub) ⟨_, _, _, _, _, _, rfl, ?hm, next_B g (fun _ => bneF (by assumption)) (twos_end (by assumption) (by assumption))⟩
    case hm => k_mem
  · refine Halt.put ?_
    have g := grow_end hp1 hp2 hm hb (by assumption) (by assumption)
    have g5 := g.big
    have g6 := g.small
    k_while_given ["mantissa!", "exponent!"] (fun M0 E0 _ mm ee => TwosInv M0 E0 mm ee) (fun M0 E0 _ mm _ => mm.natAbs) "mantissa" "exponent"
    k_steps
    refine' ret_all hret (by assumption) (by assumption) (by ktd_sub) ⟨_, _, _, _, _, _, rfl, ?hm, next_B g (fun h => absurd h (by assumption)) (twos_end (by assumption) (by assumption))⟩
    case hm => k_mem
theorem laid_NTW13_1 : True := by
  k_with "NT call ref" => (k_here; (with_reducible show wpAny _ _ (PySem.call (Value.ref 744) _ _) _ _ _); k_dflt (refine' Does.use (c_lnext _ _ _ _ _ _ _ _ ?ha ?hb ?hc ?hd ?he ?hf ?hg ?hh ?hi ?hj) ?k1 ?k2 ?k3 ?k4 ?k5 ?kK ?kd ?ku ?_; (case k1 => k_asm); (case k2 => k_asm); (case k3 => k_asm); (case k4 => k_asm); (case k5 => k_asm); (case kK => first | exact rfl | assumption); (case kd => ktr_room); (case ku => ktr_units); (case ha => (walk_at "NTn")); (case hb => (walk_at "NTa")); (case hc => (walk_at "NTa")); (case hd => (walk_at "NTa")); (case he => (walk_at "NTa")); (case hf => (walk_at "NTa")); (case hg => (walk_at "NTa")); (case hh => (walk_at "NTa")); (case hi => (walk_at "NTa")); (case hj => (walk_at "NTa")); intro r9 tl9 h9 tk9 F9 N9 ho9; obtain ⟨a9, m9, e9, u9, w9, x9, q9, hm9, hs9⟩ := ho9; subst q9; (try dsimp only); (try k_fold)))
  trivial
end
section
set_option maxRecDepth 100000 in
set_option maxHeartbeats 16000000 in
theorem c_lnumber {w : World} {mean mg mb} (news : List (Addr × Obj)) (p code : Int) (t1 t2 : Tok) (hp1 : 2 ≤ p) (hp2 : p ≤ 8) :
    Does w mean mg mb 730 12 [.int p t1, .int code t2] news (fun tl r => ∃ x, NumIn tl r x ∧ NumOk p x) := by
  have a1 := fm5 code
  have a2 := fm61 (code.fdiv 5)
  have a3 := fm12 ((code.fdiv 5).fdiv 61)
  obtain ⟨l1, l2, l3, l4, l5⟩ := low_ok (t := (code.fdiv 5).fmod 61 - 30) (b := 1 + ((code.fdiv 5).fdiv 61).fmod 12) (by omega) (by omega) (by omega) (by omega)
  unfold Does
  k_fill
  intro dp un gd cn cs aF ccd cl outer A₀ base h₀ L mF s Q E B F X N T hK9 hD9 hU9 hret
  refine wpAny_call ?_
  k_dflt (refine' code_def (binds := [(Str.ofString "bits", .int p t1), (Str.ofString "code", .int code t2)]) ?k1 ?k2 ?k3 ?k4 ?k5 ?kA ?kF ?kK ?k6 ?k7 ?k8 ?k9 ?kB ?_ ?c2 ?c3 ?c4 ?c5; (case kA => exact rfl); (case kF => exact rfl); (case kK => assumption); (case k1 => k_asm); (case k2 => k_asm); (case k3 => k_asm); (case k4 => k_asm); (case k5 => k_asm); (case k6 => k_is); (case k7 => k_is); (case k8 => ktr_room); (case k9 => exact BindsTo.of_eq rfl); (case c5 => decide); (case kB => exact locs rfl); (case c2 => exact rfl); (case c3 => exact rfl); (case c4 => exact rfl); k_whole; intro g' L' h' FG' F' N' B' X' T'; (try dsimp only); (try k_fold))

  k_with_none
  k_with "NT subscriptTail Name Constant ref int" => (k_here; (with_reducible show wpAny _ _ (subscriptTail _ _ (Value.ref _) (Value.int _ _)) _ _ _); (with_unfolding_all refine' item_litK ?k1 ?k2 ?k3 ?k4 ?_ ?k6; (case k1 => exact News.isList (by k_asm) (by k_mem)); (case k2 => decide); (case k3 => decide); (case k4 => rfl); (case k6 => with_unfolding_all rfl); k_whole))
  k_with "NT call ref" => (k_here; (refine wpAny_call ?_); k_dflt (refine' code_def ?k1 ?k2 ?k3 ?k4 ?k5 ?kA ?kF ?kK ?k6 ?k7 ?k8 ?k9 ?kB ?_ ?c2 ?c3 ?c4 ?c5; (case kA => exact rfl); (case kF => exact rfl); (case kK => first | exact rfl | assumption); (case k1 => k_asm); (case k2 => k_asm); (case k3 => k_asm); (case k4 => k_asm); (case k5 => k_asm); (case k6 => k_is); (case k7 => k_is); (case k8 => ktr_room); (case k9 => exact BindsTo.of_eq rfl); (case c5 => decide); (case kB => exact locs rfl); (case c2 => exact rfl); (case c3 => exact rfl); (case c4 => exact rfl); k_whole; intro g' L' h' FG' F' N' B' X' T'; (try dsimp only); (try k_fold)))
  k_with "NT binaryOp Add ref ref" => (k_here; (with_reducible show wpAny _ _ (binaryOp _ (Value.ref _) (Value.ref _)) _ _ _); k_dflt (refine' kmk_add_lit ?F ?N ?a ?b ?e ?_ ?z; (case F => k_asm); (case N => k_asm); (case a => kmk_list); (case b => kmk_list); (case e => kl_lit); (case z => kl_room)); intro D' h' F' N' l1; (try dsimp only))
  k_with "NT compareOp NotEq ref ref" => (k_here; (with_reducible show wpAny _ _ (compareOp CmpOp.NotEq (Value.ref _) (Value.ref _)) _ _ _); k_dflt ((refine ne_dataH (by ke_read) (by ke_read) (by ke_shaped) (by ke_shaped) (by ktr_units) ?_); ke_norm))
  k_with "NT compareOp Eq ref ref" => (k_here; (with_reducible show wpAny _ _ (compareOp CmpOp.Eq (Value.ref _) (Value.ref _)) _ _ _); k_dflt ((refine eq_dataH (by ke_read) (by ke_read) (by ke_shaped) (by ke_shaped) (by ktr_units) ?_); ke_norm))
  k_with "NT exec For Name Name cons nil" => (k_here; (rename Fr _ _ _ _ => lF'); (with_unfolding_all refine' For_invVF lF' ?k1 ?k2 ?_; (case k1 => exact rfl); (case k2 => exact rfl); k_whole))
  k_with "NT exec For Name List cons nil" => (k_here; (rename Fr _ _ _ _ => lF'); (with_unfolding_all refine' For_invVF lF' ?k1 ?k2 ?_; (case k1 => exact rfl); (case k2 => exact rfl); k_whole))
  k_with "NT exec For Name Subscript cons nil" => (k_here; (rename Fr _ _ _ _ => lF'); (with_unfolding_all refine' For_invVF lF' ?k1 ?k2 ?_; (case k1 => exact rfl); (case k2 => exact rfl); k_whole))
  k_with "NT pyIter ref" => (k_here; (with_unfolding_all refine' iter_listUnr ?k0 ?k1 ?k2 ?k3 ?k4 ?k5 ?_; (case k0 => exact rfl); (case k1 => k_asm); (case k2 => k_asm); (case k3 => k_mem); (case k4 => exact rfl); (case k5 => exact rfl); k_whole); intro i9 l9)
  k_with "NT UnrEnd" => (refine UnrEnd.intro (by assumption) (by assumption) _ ?ks (offOf (by assumption)) ⟨?km, ?_⟩; (case ks => ktd_sub); (case km => k_mem))
  k_with "NT ite" => (k_openite; k_dflt (first | (refine ite_pos ?kc ?_; (case kc => first | omega | (simp only [decide_eq_true_eq, decide_eq_false_iff_not, beq_iff_eq, bne_iff_ne, ne_eq, Bool.not_eq_true', Bool.not_eq_false', Bool.and_eq_true, Bool.and_eq_false_iff, Bool.or_eq_true, Bool.not_not]; done) | ((simp only [decide_eq_true_eq, decide_eq_false_iff_not, beq_iff_eq, bne_iff_ne, ne_eq, Bool.not_eq_true', Bool.not_eq_false', Bool.and_eq_true, Bool.and_eq_false_iff, Bool.or_eq_true, Bool.not_not]); omega) | (simp; done))) | (refine ite_neg ?kc ?_; (case kc => first | omega | (simp only [decide_eq_true_eq, decide_eq_false_iff_not, beq_iff_eq, bne_iff_ne, ne_eq, Bool.not_eq_true', Bool.not_eq_false', Bool.and_eq_true, Bool.and_eq_false_iff, Bool.or_eq_true, Bool.not_not]; done) | ((simp only [decide_eq_true_eq, decide_eq_false_iff_not, beq_iff_eq, bne_iff_ne, ne_eq, Bool.not_eq_true', Bool.not_eq_false', Bool.and_eq_true, Bool.and_eq_false_iff, Bool.or_eq_true, Bool.not_not]); omega) | (simp; done)))))
  k_with "NT NTn" => first | assumption | exact NumIn.whole | exact NumIn.mono (by assumption) (by ktd_sub) | exact NumIn.real (by k_mem) (by k_mem) | exact NumIn.ratio (by k_mem) (by k_mem)
  k_with "NT NTt" => first | assumption | exact ⟨_, _, _, _, by k_mem, by k_mem⟩
  k_with "NT NTm" => first | assumption | ktr_member | k_mem
  k_with "NT NTo" => assumption
  k_with "NT NTa" => first | assumption | omega | decide
  k_with "NT binaryOp LShift int int" => (refine lshift_int_small ?kb1 ?kb2 ?kb3 ?_; (case kb1 => walk_at "NTa"); (case kb2 => walk_at "NTa"); (case kb3 => walk_at "NTa"))
  k_with "NT binaryOp Pow int int" => (refine pow_int_small ?kb1 ?kb2 ?kb3 ?_; (case kb1 => walk_at "NTa"); (case kb2 => walk_at "NTa"); (case kb3 => walk_at "NTa"))
  k_with "NT binaryOp RShift int int" => (refine rshift_int ?kb1 ?_; (case kb1 => walk_at "NTa"))
  k_with "NT binaryOp FloorDiv int int" => (refine floordiv_int ?kb1 ?_ (Or.inl (PyProof.noPylong_small ?kb2)); (case kb1 => walk_at "NTa"); (case kb2 => walk_at "NTa"))
  k_with "NT binaryOp Mult int int" => (refine mul_int ?_ ?kb1; rotate_left; (case kb1 => first | exact mulSignOk _ _ | exact IntMulOk.of_left (intBits_le_64 (by walk_at "NTa") (by walk_at "NTa")) | exact IntMulOk.of_right (intBits_le_64 (by walk_at "NTa") (by walk_at "NTa"))))
  k_with "NT call ref" => (k_here; (with_reducible show wpAny _ _ (PySem.call (Value.ref 695) _ _) _ _ _); k_dflt (refine' Does.use (c_low _ _ _ _ _ ?ha ?hb) ?k1 ?k2 ?k3 ?k4 ?k5 ?kK ?kd ?ku ?_; (case k1 => k_asm); (case k2 => k_asm); (case k3 => k_asm); (case k4 => k_asm); (case k5 => k_asm); (case kK => first | exact rfl | assumption); (case kd => ktr_room); (case ku => ktr_units); (case ha => omega); (case hb => omega); intro r9 tl9 h9 tk9 F9 N9 ho9; obtain ⟨a9, p9, q9, u9, v9, e9, hm9, hp9, hq9⟩ := ho9; subst e9; subst hp9; subst hq9; (try dsimp only); (try k_fold)))
  k_with "NT call ref" => (k_here; (with_reducible show wpAny _ _ (PySem.call (Value.ref 96) _ _) _ _ _); k_dflt (refine' Does.use (c_Real _ _ _ _ _) ?k1 ?k2 ?k3 ?k4 ?k5 ?kK ?kd ?ku ?_; (case k1 => k_asm); (case k2 => k_asm); (case k3 => k_asm); (case k4 => k_asm); (case k5 => k_asm); (case kK => first | exact rfl | assumption); (case kd => ktr_room); (case ku => ktr_units);  intro r9 tl9 h9 tk9 F9 N9 ho9; (try dsimp only); (try k_fold)))
  k_with "NT call ref" => (k_here; (with_reducible show wpAny _ _ (PySem.call (Value.ref 264) _ _) _ _ _); k_dflt (refine' Does.use (c_Ratio _ _ _ _ _) ?k1 ?k2 ?k3 ?k4 ?k5 ?kK ?kd ?ku ?_; (case k1 => k_asm); (case k2 => k_asm); (case k3 => k_asm); (case k4 => k_asm); (case k5 => k_asm); (case kK => first | exact rfl | assumption); (case kd => ktr_room); (case ku => ktr_units);  intro r9 tl9 h9 tk9 F9 N9 ho9; (try dsimp only); (try k_fold)))
  k_with "NT call ref" => (k_here; (with_reducible show wpAny _ _ (PySem.call (Value.ref 107) _ _) _ _ _); k_dflt (refine' Does.use (c_size _ _ _) ?k1 ?k2 ?k3 ?k4 ?k5 ?kK ?kd ?ku ?_; (case k1 => k_asm); (case k2 => k_asm); (case k3 => k_asm); (case k4 => k_asm); (case k5 => k_asm); (case kK => first | exact rfl | assumption); (case kd => ktr_room); (case ku => ktr_units);  intro r9 tl9 h9 tk9 F9 N9 ho9; obtain ⟨u9, e9⟩ := ho9; subst e9; (try dsimp only); (try k_fold)))
  k_with "NT call ref" => (k_here; (with_reducible show wpAny _ _ (PySem.call (Value.ref 114) _ _) _ _ _); k_dflt (refine' Does.use (c_sow _ _ _) ?k1 ?k2 ?k3 ?k4 ?k5 ?kK ?kd ?ku ?_; (case k1 => k_asm); (case k2 => k_asm); (case k3 => k_asm); (case k4 => k_asm); (case k5 => k_asm); (case kK => first | exact rfl | assumption); (case kd => ktr_room); (case ku => ktr_units);  intro r9 tl9 h9 tk9 F9 N9 ho9; obtain ⟨u9, e9⟩ := ho9; subst e9; (try dsimp only); (try k_fold)))
  k_with "NT call ref" => (k_here; (with_reducible show wpAny _ _ (PySem.call (Value.ref 121) _ _) _ _ _); k_dflt (refine' Does.use (c_zeros _ _ _ _ _ ?ha) ?k1 ?k2 ?k3 ?k4 ?k5 ?kK ?kd ?ku ?_; (case k1 => k_asm); (case k2 => k_asm); (case k3 => k_asm); (case k4 => k_asm); (case k5 => k_asm); (case kK => first | exact rfl | assumption); (case kd => ktr_room); (case ku => ktr_units); (case ha => assumption); intro r9 tl9 h9 tk9 F9 N9 ho9; obtain ⟨u9, e9⟩ := ho9; subst e9; (try dsimp only); (try k_fold)))
  k_with "NT call ref" => (k_here; (with_reducible show wpAny _ _ (PySem.call (Value.ref 128) _ _) _ _ _); k_dflt (refine' Does.use (c_lean _ _ _ _ _ ?ha ?ha2 ?hb ?hc) ?k1 ?k2 ?k3 ?k4 ?k5 ?kK ?kd ?ku ?_; (case k1 => k_asm); (case k2 => k_asm); (case k3 => k_asm); (case k4 => k_asm); (case k5 => k_asm); (case kK => first | exact rfl | assumption); (case kd => ktr_room); (case ku => ktr_units); (case ha => first | (walk_at "NTa") | exact (signMul (by omega) (by omega)).1); (case ha2 => first | (walk_at "NTa") | exact (signMul (by omega) (by omega)).2); (case hb => (walk_at "NTa")); (case hc => (walk_at "NTa")); intro r9 tl9 h9 tk9 F9 N9 ho9; obtain ⟨m9, e9, hm9, hn9⟩ := ho9; (try dsimp only); (try k_fold)))
  k_with "NT call ref" => (k_here; (with_reducible show wpAny _ _ (PySem.call (Value.ref 135) _ _) _ _ _); k_dflt (refine' Does.use (c_nshift _ _ _ _ _ ?ha ?hb ?hc) ?k1 ?k2 ?k3 ?k4 ?k5 ?kK ?kd ?ku ?_; (case k1 => k_asm); (case k2 => k_asm); (case k3 => k_asm); (case k4 => k_asm); (case k5 => k_asm); (case kK => first | exact rfl | assumption); (case kd => ktr_room); (case ku => ktr_units); (case ha => (walk_at "NTa")); (case hb => (walk_at "NTa")); (case hc => (walk_at "NTa")); intro r9 tl9 h9 tk9 F9 N9 ho9; obtain ⟨R9, u9, e9, hR9, hlo9, hhi9⟩ := ho9; subst e9; (try dsimp only); (try k_fold)))
  k_with "NT call ref" => (k_here; (with_reducible show wpAny _ _ (PySem.call (Value.ref 149) _ _) _ _ _); k_dflt (refine' Does.use (c_sticky _ _ _ _ ?ha ?hb) ?k1 ?k2 ?k3 ?k4 ?k5 ?kK ?kd ?ku ?_; (case k1 => k_asm); (case k2 => k_asm); (case k3 => k_asm); (case k4 => k_asm); (case k5 => k_asm); (case kK => first | exact rfl | assumption); (case kd => ktr_room); (case ku => ktr_units); (case ha => (walk_at "NTa")); (case hb => (walk_at "NTa")); intro r9 tl9 h9 tk9 F9 N9 ho9; obtain ⟨u9, e9⟩ := ho9; subst e9; (try dsimp only); (try k_fold)))
  k_with "NT call ref" => (k_here; (with_reducible show wpAny _ _ (PySem.call (Value.ref 142) _ _) _ _ _); k_dflt (refine' Does.use (c_sround _ _ _ _ _ _ _ ?ha ?hb ?hc ?hd ?he ?hf) ?k1 ?k2 ?k3 ?k4 ?k5 ?kK ?kd ?ku ?_; (case k1 => k_asm); (case k2 => k_asm); (case k3 => k_asm); (case k4 => k_asm); (case k5 => k_asm); (case kK => first | exact rfl | assumption); (case kd => ktr_room); (case ku => ktr_units); (case ha => (walk_at "NTa")); (case hb => (walk_at "NTa")); (case hc => (walk_at "NTa")); (case hd => (walk_at "NTa")); (case he => (walk_at "NTa")); (case hf => (walk_at "NTa")); intro r9 tl9 h9 tk9 F9 N9 ho9; obtain ⟨R9, m9, e9, hm9, hR9, hn9⟩ := ho9; (try dsimp only); (try k_fold)))
  k_with "NT call ref" => (k_here; (with_reducible show wpAny _ _ (PySem.call (Value.ref 156) _ _) _ _ _); k_dflt (refine' Does.use (c_rounded _ _ _ _ _ _ _ ?ha ?hb ?hc ?hd ?he ?hf) ?k1 ?k2 ?k3 ?k4 ?k5 ?kK ?kd ?ku ?_; (case k1 => k_asm); (case k2 => k_asm); (case k3 => k_asm); (case k4 => k_asm); (case k5 => k_asm); (case kK => first | exact rfl | assumption); (case kd => ktr_room); (case ku => ktr_units); (case ha => (walk_at "NTa")); (case hb => (walk_at "NTa")); (case hc => (walk_at "NTa")); (case hd => (walk_at "NTa")); (case he => (walk_at "NTa")); (case hf => (walk_at "NTa")); intro r9 tl9 h9 tk9 F9 N9 ho9; obtain ⟨m9, e9, hm9, hs9⟩ := ho9; (try dsimp only); (try k_fold)))
  k_with "NT call ref" => (k_here; (with_reducible show wpAny _ _ (PySem.call (Value.ref 163) _ _) _ _ _); k_dflt (refine' Does.use (c_exparts _ _ _ _ ?ha ?hb ?hc ?hd ?he) ?k1 ?k2 ?k3 ?k4 ?k5 ?kK ?kd ?ku ?_; (case k1 => k_asm); (case k2 => k_asm); (case k3 => k_asm); (case k4 => k_asm); (case k5 => k_asm); (case kK => first | exact rfl | assumption); (case kd => ktr_room); (case ku => ktr_units); (case ha => (walk_at "NTn")); (case hb => (walk_at "NTa")); (case hc => (walk_at "NTa")); (case hd => (walk_at "NTa")); (case he => (walk_at "NTa")); intro r9 tl9 h9 tk9 F9 N9 ho9; obtain ⟨a9, p9, q9, u9, v9, e9, hm9, hp9, hq9⟩ := ho9; subst e9; subst hp9; subst hq9; (try dsimp only); (try k_fold)))
  k_with "NT call ref" => (k_here; (with_reducible show wpAny _ _ (PySem.call (Value.ref 170) _ _) _ _ _); k_dflt (refine' Does.use (c_place _ _ _ _ ?ha) ?k1 ?k2 ?k3 ?k4 ?k5 ?kK ?kd ?ku ?_; (case k1 => k_asm); (case k2 => k_asm); (case k3 => k_asm); (case k4 => k_asm); (case k5 => k_asm); (case kK => first | exact rfl | assumption); (case kd => ktr_room); (case ku => ktr_units); (case ha => (walk_at "NTn")); intro r9 tl9 h9 tk9 F9 N9 ho9; obtain ⟨u9, e9⟩ := ho9; subst e9; (try dsimp only); (try k_fold)))
  k_with "NT call ref" => (k_here; (with_reducible show wpAny _ _ (PySem.call (Value.ref 177) _ _) _ _ _); k_dflt (refine' Does.use (c_signof _ _ _ _ ?ha) ?k1 ?k2 ?k3 ?k4 ?k5 ?kK ?kd ?ku ?_; (case k1 => k_asm); (case k2 => k_asm); (case k3 => k_asm); (case k4 => k_asm); (case k5 => k_asm); (case kK => first | exact rfl | assumption); (case kd => ktr_room); (case ku => ktr_units); (case ha => (walk_at "NTn")); intro r9 tl9 h9 tk9 F9 N9 ho9; obtain ⟨u9, e9⟩ := ho9; subst e9; (try dsimp only); (try k_fold)))
  k_with "NT call ref" => (k_here; (with_reducible show wpAny _ _ (PySem.call (Value.ref 184) _ _) _ _ _); k_dflt (refine' Does.use (c_negative _ _ _ _ ?ha) ?k1 ?k2 ?k3 ?k4 ?k5 ?kK ?kd ?ku ?_; (case k1 => k_asm); (case k2 => k_asm); (case k3 => k_asm); (case k4 => k_asm); (case k5 => k_asm); (case kK => first | exact rfl | assumption); (case kd => ktr_room); (case ku => ktr_units); (case ha => (walk_at "NTn")); intro r9 tl9 h9 tk9 F9 N9 ho9; (try dsimp only); (try k_fold)))
  k_with "NT call ref" => (k_here; (with_reducible show wpAny _ _ (PySem.call (Value.ref 191) _ _) _ _ _); k_dflt (refine' Does.use (c_magnitude _ _ _ _ ?ha) ?k1 ?k2 ?k3 ?k4 ?k5 ?kK ?kd ?ku ?_; (case k1 => k_asm); (case k2 => k_asm); (case k3 => k_asm); (case k4 => k_asm); (case k5 => k_asm); (case kK => first | exact rfl | assumption); (case kd => ktr_room); (case ku => ktr_units); (case ha => (walk_at "NTn")); intro r9 tl9 h9 tk9 F9 N9 ho9; (try dsimp only); (try k_fold)))
  k_with "NT call ref" => (k_here; (with_reducible show wpAny _ _ (PySem.call (Value.ref 198) _ _) _ _ _); k_dflt (refine' Does.use (c_same _ _ _ _ _ _ _ ?ha ?hb) ?k1 ?k2 ?k3 ?k4 ?k5 ?kK ?kd ?ku ?_; (case k1 => k_asm); (case k2 => k_asm); (case k3 => k_asm); (case k4 => k_asm); (case k5 => k_asm); (case kK => first | exact rfl | assumption); (case kd => ktr_room); (case ku => ktr_units); (case ha => (walk_at "NTn")); (case hb => (walk_at "NTn")); intro r9 tl9 h9 tk9 F9 N9 ho9; (have e9 : _ = _ := ho9); clear ho9; subst e9; (try dsimp only); (try k_fold)))
  k_with "NT call ref" => (k_here; (with_reducible show wpAny _ _ (PySem.call (Value.ref 205) _ _) _ _ _); k_dflt (refine' Does.use (c_cmpmag _ _ _ _ _ _ _ ?ha ?hb ?hc ?hd ?he ?hf ?hg ?hh ?hi ?hj) ?k1 ?k2 ?k3 ?k4 ?k5 ?kK ?kd ?ku ?_; (case k1 => k_asm); (case k2 => k_asm); (case k3 => k_asm); (case k4 => k_asm); (case k5 => k_asm); (case kK => first | exact rfl | assumption); (case kd => ktr_room); (case ku => ktr_units); (case ha => (walk_at "NTn")); (case hb => (walk_at "NTn")); (case hc => (walk_at "NTa")); (case hd => (walk_at "NTa")); (case he => (walk_at "NTa")); (case hf => (walk_at "NTa")); (case hg => (walk_at "NTa")); (case hh => (walk_at "NTa")); (case hi => (walk_at "NTa")); (case hj => (walk_at "NTa")); intro r9 tl9 h9 tk9 F9 N9 ho9; obtain ⟨u9, e9⟩ := ho9; subst e9; (try dsimp only); (try k_fold)))
  k_with "NT call ref" => (k_here; (with_reducible show wpAny _ _ (PySem.call (Value.ref 212) _ _) _ _ _); k_dflt (refine' Does.use (c_cmpreals _ _ _ _ _ _ _ ?ha ?hb ?hc ?hd ?he ?hf ?hg ?hh ?hi ?hj) ?k1 ?k2 ?k3 ?k4 ?k5 ?kK ?kd ?ku ?_; (case k1 => k_asm); (case k2 => k_asm); (case k3 => k_asm); (case k4 => k_asm); (case k5 => k_asm); (case kK => first | exact rfl | assumption); (case kd => ktr_room); (case ku => ktr_units); (case ha => (walk_at "NTn")); (case hb => (walk_at "NTn")); (case hc => (walk_at "NTa")); (case hd => (walk_at "NTa")); (case he => (walk_at "NTa")); (case hf => (walk_at "NTa")); (case hg => (walk_at "NTa")); (case hh => (walk_at "NTa")); (case hi => (walk_at "NTa")); (case hj => (walk_at "NTa")); intro r9 tl9 h9 tk9 F9 N9 ho9; obtain ⟨u9, e9⟩ := ho9; subst e9; (try dsimp only); (try k_fold)))
  k_with "NT call ref" => (k_here; (with_reducible show wpAny _ _ (PySem.call (Value.ref 219) _ _) _ _ _); k_dflt (refine' Does.use (c_fullm _ _ _ _ _ _ ?ha ?hb ?hc ?hd ?he) ?k1 ?k2 ?k3 ?k4 ?k5 ?kK ?kd ?ku ?_; (case k1 => k_asm); (case k2 => k_asm); (case k3 => k_asm); (case k4 => k_asm); (case k5 => k_asm); (case kK => first | exact rfl | assumption); (case kd => ktr_room); (case ku => ktr_units); (case ha => (walk_at "NTn")); (case hb => (walk_at "NTa")); (case hc => (walk_at "NTa")); (case hd => (walk_at "NTa")); (case he => (walk_at "NTa")); intro r9 tl9 h9 tk9 F9 N9 ho9; obtain ⟨a9, P9, u9, v9, e9, hm9, hP9⟩ := ho9; subst e9; subst hP9; (try dsimp only); (try k_fold)))
  k_with "NT call ref" => (k_here; (with_reducible show wpAny _ _ (PySem.call (Value.ref 226) _ _) _ _ _); k_dflt (refine' Does.use (c_farther _ _ _ _ _ _ ?ha ?hb ?hc ?hd ?he ?hf ?hg ?hh ?hi) ?k1 ?k2 ?k3 ?k4 ?k5 ?kK ?kd ?ku ?_; (case k1 => k_asm); (case k2 => k_asm); (case k3 => k_asm); (case k4 => k_asm); (case k5 => k_asm); (case kK => first | exact rfl | assumption); (case kd => ktr_room); (case ku => ktr_units); (case ha => (walk_at "NTn")); (case hb => (walk_at "NTa")); (case hc => (walk_at "NTa")); (case hd => (walk_at "NTa")); (case he => (walk_at "NTa")); (case hf => (walk_at "NTa")); (case hg => (walk_at "NTa")); (case hh => (walk_at "NTa")); (case hi => (walk_at "NTa")); intro r9 tl9 h9 tk9 F9 N9 ho9; obtain ⟨m9, e9, hm9, hn9⟩ := ho9; (try dsimp only); (try k_fold)))
  k_with "NT call ref" => (k_here; (with_reducible show wpAny _ _ (PySem.call (Value.ref 233) _ _) _ _ _); k_dflt (refine' Does.use (c_nearer _ _ _ _ _ _ ?ha ?hb ?hc ?hd ?he ?hf ?hg ?hh ?hi) ?k1 ?k2 ?k3 ?k4 ?k5 ?kK ?kd ?ku ?_; (case k1 => k_asm); (case k2 => k_asm); (case k3 => k_asm); (case k4 => k_asm); (case k5 => k_asm); (case kK => first | exact rfl | assumption); (case kd => ktr_room); (case ku => ktr_units); (case ha => (walk_at "NTn")); (case hb => (walk_at "NTa")); (case hc => (walk_at "NTa")); (case hd => (walk_at "NTa")); (case he => (walk_at "NTa")); (case hf => (walk_at "NTa")); (case hg => (walk_at "NTa")); (case hh => (walk_at "NTa")); (case hi => (walk_at "NTa")); intro r9 tl9 h9 tk9 F9 N9 ho9; obtain ⟨m9, e9, hm9, hn9⟩ := ho9; (try dsimp only); (try k_fold)))
  k_with "NT call ref" => (k_here; (with_reducible show wpAny _ _ (PySem.call (Value.ref 240) _ _) _ _ _); k_dflt (refine' Does.use (c_above _ _ _ _ _ _ ?ha ?hb ?hc ?hd ?he ?hf ?hg ?hh ?hi) ?k1 ?k2 ?k3 ?k4 ?k5 ?kK ?kd ?ku ?_; (case k1 => k_asm); (case k2 => k_asm); (case k3 => k_asm); (case k4 => k_asm); (case k5 => k_asm); (case kK => first | exact rfl | assumption); (case kd => ktr_room); (case ku => ktr_units); (case ha => (walk_at "NTn")); (case hb => (walk_at "NTa")); (case hc => (walk_at "NTa")); (case hd => (walk_at "NTa")); (case he => (walk_at "NTa")); (case hf => (walk_at "NTa")); (case hg => (walk_at "NTa")); (case hh => (walk_at "NTa")); (case hi => (walk_at "NTa")); intro r9 tl9 h9 tk9 F9 N9 ho9; obtain ⟨m9, e9, hm9, hn9⟩ := ho9; (try dsimp only); (try k_fold)))
  k_with "NT call ref" => (k_here; (with_reducible show wpAny _ _ (PySem.call (Value.ref 247) _ _) _ _ _); k_dflt (refine' Does.use (c_below _ _ _ _ _ _ ?ha ?hb ?hc ?hd ?he ?hf ?hg ?hh ?hi) ?k1 ?k2 ?k3 ?k4 ?k5 ?kK ?kd ?ku ?_; (case k1 => k_asm); (case k2 => k_asm); (case k3 => k_asm); (case k4 => k_asm); (case k5 => k_asm); (case kK => first | exact rfl | assumption); (case kd => ktr_room); (case ku => ktr_units); (case ha => (walk_at "NTn")); (case hb => (walk_at "NTa")); (case hc => (walk_at "NTa")); (case hd => (walk_at "NTa")); (case he => (walk_at "NTa")); (case hf => (walk_at "NTa")); (case hg => (walk_at "NTa")); (case hh => (walk_at "NTa")); (case hi => (walk_at "NTa")); intro r9 tl9 h9 tk9 F9 N9 ho9; obtain ⟨m9, e9, hm9, hn9⟩ := ho9; (try dsimp only); (try k_fold)))
  k_with "NT call builtin:isinstance" => (k_here; (with_reducible show wpAny _ _ (PySem.call (Value.builtin "isinstance") [_, Value.ref 96]) _ _ _); k_dflt (refine' isi_num ?k1 ?k2 ?k3 ?k4 ?k5 ?_; (case k1 => k_asm); (case k2 => k_asm); (case k3 => k_asm); (case k4 => walk_at "NTn"); (case k5 => first | assumption | exact rfl); k_whole; intro tk9; (try dsimp only [Num.isReal])))
  k_with "NT call ref" => (k_here; (with_reducible show wpAny _ _ (PySem.call (Value.ref 345) _ _) _ _ _); k_dflt (refine' Does.use (c_isinexact _ _ _ ?ha) ?k1 ?k2 ?k3 ?k4 ?k5 ?kK ?kd ?ku ?_; (case k1 => k_asm); (case k2 => k_asm); (case k3 => k_asm); (case k4 => k_asm); (case k5 => k_asm); (case kK => first | exact rfl | assumption); (case kd => ktr_room); (case ku => ktr_units); (case ha => (walk_at "NTn")); intro r9 tl9 h9 tk9 F9 N9 ho9; (have e9 : _ = _ := ho9); clear ho9; subst e9; (try dsimp only); (try k_fold)))
  k_with "NT call ref" => (k_here; (with_reducible show wpAny _ _ (PySem.call (Value.ref 282) _ _) _ _ _); k_dflt (refine' Does.use (c_isexact _ _ _ ?ha) ?k1 ?k2 ?k3 ?k4 ?k5 ?kK ?kd ?ku ?_; (case k1 => k_asm); (case k2 => k_asm); (case k3 => k_asm); (case k4 => k_asm); (case k5 => k_asm); (case kK => first | exact rfl | assumption); (case kd => ktr_room); (case ku => ktr_units); (case ha => (walk_at "NTn")); intro r9 tl9 h9 tk9 F9 N9 ho9; (have e9 : _ = _ := ho9); clear ho9; subst e9; (try dsimp only); (try k_fold)))
  k_with "NT call ref" => (k_here; (with_reducible show wpAny _ _ (PySem.call (Value.ref 289) _ _) _ _ _); k_dflt (refine' Does.use (c_topof _ _ _ ?ha ?hb) ?k1 ?k2 ?k3 ?k4 ?k5 ?kK ?kd ?ku ?_; (case k1 => k_asm); (case k2 => k_asm); (case k3 => k_asm); (case k4 => k_asm); (case k5 => k_asm); (case kK => first | exact rfl | assumption); (case kd => ktr_room); (case ku => ktr_units); (case ha => (walk_at "NTn")); (case hb => first | assumption | rfl); intro r9 tl9 h9 tk9 F9 N9 ho9; obtain ⟨u9, e9⟩ := ho9; subst e9; (try dsimp only); (try k_fold)))
  k_with "NT call ref" => (k_here; (with_reducible show wpAny _ _ (PySem.call (Value.ref 296) _ _) _ _ _); k_dflt (refine' Does.use (c_bottomof _ _ _ ?ha ?hb) ?k1 ?k2 ?k3 ?k4 ?k5 ?kK ?kd ?ku ?_; (case k1 => k_asm); (case k2 => k_asm); (case k3 => k_asm); (case k4 => k_asm); (case k5 => k_asm); (case kK => first | exact rfl | assumption); (case kd => ktr_room); (case ku => ktr_units); (case ha => (walk_at "NTn")); (case hb => first | assumption | rfl); intro r9 tl9 h9 tk9 F9 N9 ho9; obtain ⟨u9, e9⟩ := ho9; subst e9; (try dsimp only); (try k_fold)))
  k_with "NT call ref" => (k_here; (with_reducible show wpAny _ _ (PySem.call (Value.ref 177) _ _) _ _ _); k_dflt (refine' Does.use (c_signof' _ _ _ ?ha ?hb) ?k1 ?k2 ?k3 ?k4 ?k5 ?kK ?kd ?ku ?_; (case k1 => k_asm); (case k2 => k_asm); (case k3 => k_asm); (case k4 => k_asm); (case k5 => k_asm); (case kK => first | exact rfl | assumption); (case kd => ktr_room); (case ku => ktr_units); (case ha => (walk_at "NTn")); (case hb => first | assumption | rfl); intro r9 tl9 h9 tk9 F9 N9 ho9; obtain ⟨u9, e9⟩ := ho9; subst e9; (try dsimp only); (try k_fold)))
  k_with "NT call ref" => (k_here; (with_reducible show wpAny _ _ (PySem.call (Value.ref 212) _ _) _ _ _); k_dflt (refine' Does.use (c_cmpreals' _ _ _ _ _ _ ?ha ?hb ?hc ?hd ?he ?hf ?hg) ?k1 ?k2 ?k3 ?k4 ?k5 ?kK ?kd ?ku ?_; (case k1 => k_asm); (case k2 => k_asm); (case k3 => k_asm); (case k4 => k_asm); (case k5 => k_asm); (case kK => first | exact rfl | assumption); (case kd => ktr_room); (case ku => ktr_units); (case ha => (walk_at "NTn")); (case hb => (walk_at "NTn")); (case hc => first | assumption | rfl); (case hd => first | assumption | rfl); (case he => (walk_at "NTa")); (case hf => (walk_at "NTo")); (case hg => (walk_at "NTo")); intro r9 tl9 h9 tk9 F9 N9 ho9; obtain ⟨u9, e9⟩ := ho9; subst e9; (try dsimp only); (try k_fold)))
  k_with "NT call ref" => (k_here; (with_reducible show wpAny _ _ (PySem.call (Value.ref 198) _ _) _ _ _); k_dflt (refine' Does.use (c_same' _ _ _ _ _ _ ?ha ?hb ?hc ?hd ?hf ?hg) ?k1 ?k2 ?k3 ?k4 ?k5 ?kK ?kd ?ku ?_; (case k1 => k_asm); (case k2 => k_asm); (case k3 => k_asm); (case k4 => k_asm); (case k5 => k_asm); (case kK => first | exact rfl | assumption); (case kd => ktr_room); (case ku => ktr_units); (case ha => (walk_at "NTn")); (case hb => (walk_at "NTn")); (case hc => first | assumption | rfl); (case hd => first | assumption | rfl); (case hf => (walk_at "NTo")); (case hg => (walk_at "NTo")); intro r9 tl9 h9 tk9 F9 N9 ho9; (have e9 : _ = _ := ho9); clear ho9; subst e9; (try dsimp only); (try k_fold)))
  k_with "NT call ref" => (k_here; (with_reducible show wpAny _ _ (PySem.call (Value.ref 163) _ _) _ _ _); k_dflt (refine' Does.use (c_exparts' _ _ _ _ ?ha ?hb ?hc ?hd) ?k1 ?k2 ?k3 ?k4 ?k5 ?kK ?kd ?ku ?_; (case k1 => k_asm); (case k2 => k_asm); (case k3 => k_asm); (case k4 => k_asm); (case k5 => k_asm); (case kK => first | exact rfl | assumption); (case kd => ktr_room); (case ku => ktr_units); (case ha => (walk_at "NTn")); (case hb => first | assumption | rfl); (case hc => (walk_at "NTa")); (case hd => (walk_at "NTo")); intro r9 tl9 h9 tk9 F9 N9 ho9; obtain ⟨a9, p9, q9, u9, v9, e9, hm9, hp9, hq9⟩ := ho9; subst e9; subst hp9; subst hq9; (try dsimp only); (try k_fold)))
  k_with "NT call ref" => (k_here; (with_reducible show wpAny _ _ (PySem.call (Value.ref 352) _ _) _ _ _); k_dflt (refine' Does.use (c_sign _ _ _ ?ha) ?k1 ?k2 ?k3 ?k4 ?k5 ?kK ?kd ?ku ?_; (case k1 => k_asm); (case k2 => k_asm); (case k3 => k_asm); (case k4 => k_asm); (case k5 => k_asm); (case kK => first | exact rfl | assumption); (case kd => ktr_room); (case ku => ktr_units); (case ha => (walk_at "NTn")); intro r9 tl9 h9 tk9 F9 N9 ho9; obtain ⟨u9, e9⟩ := ho9; subst e9; (try dsimp only); (try k_fold)))
  k_with "NT call ref" => (k_here; (with_reducible show wpAny _ _ (PySem.call (Value.ref 331) _ _) _ _ _); k_dflt (refine' Does.use (c_cmpexact _ _ _ _ _ ?ha ?hb ?hc ?hd ?he ?hf ?hg ?hh) ?k1 ?k2 ?k3 ?k4 ?k5 ?kK ?kd ?ku ?_; (case k1 => k_asm); (case k2 => k_asm); (case k3 => k_asm); (case k4 => k_asm); (case k5 => k_asm); (case kK => first | exact rfl | assumption); (case kd => ktr_room); (case ku => ktr_units); (case ha => (walk_at "NTn")); (case hb => (walk_at "NTn")); (case hc => first | assumption | rfl | exact ex_isReal _); (case hd => first | assumption | rfl | exact ex_isReal _); (case he => (walk_at "NTa")); (case hf => (walk_at "NTa")); (case hg => (walk_at "NTa")); (case hh => (walk_at "NTa")); intro r9 tl9 h9 tk9 F9 N9 ho9; obtain ⟨u9, e9⟩ := ho9; subst e9; (try dsimp only); (try k_fold)))
  k_with "NT call ref" => (k_here; (with_reducible show wpAny _ _ (PySem.call (Value.ref 338) _ _) _ _ _); k_dflt (refine' Does.use (c_eqexact _ _ _ _ _ _ ?ha ?hb ?hc ?hd ?hf ?hg) ?k1 ?k2 ?k3 ?k4 ?k5 ?kK ?kd ?ku ?_; (case k1 => k_asm); (case k2 => k_asm); (case k3 => k_asm); (case k4 => k_asm); (case k5 => k_asm); (case kK => first | exact rfl | assumption); (case kd => ktr_room); (case ku => ktr_units); (case ha => (walk_at "NTn")); (case hb => (walk_at "NTn")); (case hc => first | assumption | rfl); (case hd => first | assumption | rfl); (case hf => (walk_at "NTo")); (case hg => (walk_at "NTo")); intro r9 tl9 h9 tk9 F9 N9 ho9; (have e9 : _ = _ := ho9); clear ho9; subst e9; (try dsimp only); (try k_fold)))
  k_with "NT call ref" => (k_here; (with_reducible show wpAny _ _ (PySem.call (Value.ref 303) _ _) _ _ _); k_dflt (refine' Does.use (c_gcdof _ _ _ _ _) ?k1 ?k2 ?k3 ?k4 ?k5 ?kK ?kd ?ku ?_; (case k1 => k_asm); (case k2 => k_asm); (case k3 => k_asm); (case k4 => k_asm); (case k5 => k_asm); (case kK => first | exact rfl | assumption); (case kd => ktr_room); (case ku => ktr_units);  intro r9 tl9 h9 tk9 F9 N9 ho9; obtain ⟨u9, e9⟩ := ho9; subst e9; (try dsimp only); (try k_fold)))
  k_with "NT call ref" => (k_here; (with_reducible show wpAny _ _ (PySem.call (Value.ref 317) _ _) _ _ _); k_dflt (refine' Does.use (c_ratioof _ _ _ _ _ ?ha ?hb) ?k1 ?k2 ?k3 ?k4 ?k5 ?kK ?kd ?ku ?_; (case k1 => k_asm); (case k2 => k_asm); (case k3 => k_asm); (case k4 => k_asm); (case k5 => k_asm); (case kK => first | exact rfl | assumption); (case kd => ktr_room); (case ku => ktr_units); (case ha => (walk_at "NTa")); (case hb => (walk_at "NTa")); intro r9 tl9 h9 tk9 F9 N9 ho9; (try dsimp only); (try k_fold)))
  k_with "NT call ref" => (k_here; (with_reducible show wpAny _ _ (PySem.call (Value.ref 359) _ _) _ _ _); k_dflt (refine' Does.use (c_toexact _ _ _ _ ?ha ?hb ?hc) ?k1 ?k2 ?k3 ?k4 ?k5 ?kK ?kd ?ku ?_; (case k1 => k_asm); (case k2 => k_asm); (case k3 => k_asm); (case k4 => k_asm); (case k5 => k_asm); (case kK => first | exact rfl | assumption); (case kd => ktr_room); (case ku => ktr_units); (case ha => (walk_at "NTn")); (case hb => (walk_at "NTa")); (case hc => (walk_at "NTo")); intro r9 tl9 h9 tk9 F9 N9 ho9; (try dsimp only); (try k_fold)))
  k_with "NT call ref" => (k_here; (with_reducible show wpAny _ _ (PySem.call (Value.ref 366) _ _) _ _ _); k_dflt (refine' Does.use (c_toinexact _ _ _ _ _ ?ha ?hb ?hc ?hd) ?k1 ?k2 ?k3 ?k4 ?k5 ?kK ?kd ?ku ?_; (case k1 => k_asm); (case k2 => k_asm); (case k3 => k_asm); (case k4 => k_asm); (case k5 => k_asm); (case kK => first | exact rfl | assumption); (case kd => ktr_room); (case ku => ktr_units); (case ha => (walk_at "NTn")); (case hb => (walk_at "NTa")); (case hc => (walk_at "NTa")); (case hd => (walk_at "NTo")); intro r9 tl9 h9 tk9 F9 N9 ho9; obtain ⟨m9, e9, hm9, hs9, ho9⟩ := ho9; (try dsimp only); (try k_fold)))
  k_with "NT call ref" => (k_here; (with_reducible show wpAny _ _ (PySem.call (Value.ref 387) _ _) _ _ _); k_dflt (refine' Does.use (c_compare _ _ _ _ _ _ ?ha ?hb ?hc ?hd ?he) ?k1 ?k2 ?k3 ?k4 ?k5 ?kK ?kd ?ku ?_; (case k1 => k_asm); (case k2 => k_asm); (case k3 => k_asm); (case k4 => k_asm); (case k5 => k_asm); (case kK => first | exact rfl | assumption); (case kd => ktr_room); (case ku => ktr_units); (case ha => (walk_at "NTn")); (case hb => (walk_at "NTn")); (case hc => (walk_at "NTa")); (case hd => (walk_at "NTo")); (case he => (walk_at "NTo")); intro r9 tl9 h9 tk9 F9 N9 ho9; obtain ⟨u9, e9⟩ := ho9; subst e9; (try dsimp only); (try k_fold)))
  k_with "NT call ref" => (k_here; (with_reducible show wpAny _ _ (PySem.call (Value.ref 394) _ _) _ _ _); k_dflt (refine' Does.use (c_samenum _ _ _ _ _ _ ?ha ?hb ?hc ?hd) ?k1 ?k2 ?k3 ?k4 ?k5 ?kK ?kd ?ku ?_; (case k1 => k_asm); (case k2 => k_asm); (case k3 => k_asm); (case k4 => k_asm); (case k5 => k_asm); (case kK => first | exact rfl | assumption); (case kd => ktr_room); (case ku => ktr_units); (case ha => (walk_at "NTn")); (case hb => (walk_at "NTn")); (case hc => (walk_at "NTo")); (case hd => (walk_at "NTo")); intro r9 tl9 h9 tk9 F9 N9 ho9; (have e9 : _ = _ := ho9); clear ho9; subst e9; (try dsimp only); (try k_fold)))
  k_with "NT call ref" => (k_here; (with_reducible show wpAny _ _ (PySem.call (Value.ref 373) _ _) _ _ _); k_dflt (refine' Does.use (c_hasinexact _ _ _ _ _ _ ?hl ?ha ?hb) ?k1 ?k2 ?k3 ?k4 ?k5 ?kK ?kd ?ku ?_; (case k1 => k_asm); (case k2 => k_asm); (case k3 => k_asm); (case k4 => k_asm); (case k5 => k_asm); (case kK => first | exact rfl | assumption); (case kd => ktr_room); (case ku => ktr_units); (case hl => walk_at "NTm"); (case ha => (walk_at "NTn")); (case hb => (walk_at "NTn")); intro r9 tl9 h9 tk9 F9 N9 ho9; (have e9 : _ = _ := ho9); clear ho9; subst e9; (try dsimp only); (try k_fold)))
  k_with "NT call ref" => (k_here; (with_reducible show wpAny _ _ (PySem.call (Value.ref 380) _ _) _ _ _); k_dflt (refine' Does.use (c_asof _ _ _ _ _ _ _ _ _ _ ?hl ?ha ?hb ?hc ?hd ?he ?hf) ?k1 ?k2 ?k3 ?k4 ?k5 ?kK ?kd ?ku ?_; (case k1 => k_asm); (case k2 => k_asm); (case k3 => k_asm); (case k4 => k_asm); (case k5 => k_asm); (case kK => first | exact rfl | assumption); (case kd => ktr_room); (case ku => ktr_units); (case hl => walk_at "NTm"); (case ha => (walk_at "NTn")); (case hb => (walk_at "NTn")); (case hc => (walk_at "NTn")); (case hd => (walk_at "NTa")); (case he => (walk_at "NTa")); (case hf => (walk_at "NTo")); intro r9 tl9 h9 tk9 F9 N9 ho9; obtain ⟨z9, hz9, hk9⟩ := ho9; (try dsimp only); (try k_fold)))
  k_with "NT call ref" => (k_here; (with_reducible show wpAny _ _ (PySem.call (Value.ref 583) _ _) _ _ _); k_dflt (refine' Does.use (c_greatest _ _ _ _ _ _ _ _ ?ht ?hl ?ha ?hb ?hc ?hd ?he ?hf) ?k1 ?k2 ?k3 ?k4 ?k5 ?kK ?kd ?ku ?_; (case k1 => k_asm); (case k2 => k_asm); (case k3 => k_asm); (case k4 => k_asm); (case k5 => k_asm); (case kK => first | exact rfl | assumption); (case kd => ktr_room); (case ku => ktr_units); (case ht => walk_at "NTt"); (case hl => walk_at "NTm"); (case ha => (walk_at "NTn")); (case hb => (walk_at "NTn")); (case hc => (walk_at "NTa")); (case hd => (walk_at "NTa")); (case he => (walk_at "NTo")); (case hf => (walk_at "NTo")); intro r9 tl9 h9 tk9 F9 N9 ho9; obtain ⟨z9, hz9, hk9⟩ := ho9; (try dsimp only); (try k_fold)))
  k_with "NT call ref" => (k_here; (with_reducible show wpAny _ _ (PySem.call (Value.ref 590) _ _) _ _ _); k_dflt (refine' Does.use (c_least _ _ _ _ _ _ _ _ ?ht ?hl ?ha ?hb ?hc ?hd ?he ?hf) ?k1 ?k2 ?k3 ?k4 ?k5 ?kK ?kd ?ku ?_; (case k1 => k_asm); (case k2 => k_asm); (case k3 => k_asm); (case k4 => k_asm); (case k5 => k_asm); (case kK => first | exact rfl | assumption); (case kd => ktr_room); (case ku => ktr_units); (case ht => walk_at "NTt"); (case hl => walk_at "NTm"); (case ha => (walk_at "NTn")); (case hb => (walk_at "NTn")); (case hc => (walk_at "NTa")); (case hd => (walk_at "NTa")); (case he => (walk_at "NTo")); (case hf => (walk_at "NTo")); intro r9 tl9 h9 tk9 F9 N9 ho9; obtain ⟨z9, hz9, hk9⟩ := ho9; (try dsimp only); (try k_fold)))
  k_with "NT call ref" => (k_here; (with_reducible show wpAny _ _ (PySem.call (Value.ref 716) _ _) _ _ _); k_dflt (refine' Does.use (c_lfrac _ _ _ _ ?ha ?hb ?hc) ?k1 ?k2 ?k3 ?k4 ?k5 ?kK ?kd ?ku ?_; (case k1 => k_asm); (case k2 => k_asm); (case k3 => k_asm); (case k4 => k_asm); (case k5 => k_asm); (case kK => first | exact rfl | assumption); (case kd => ktr_room); (case ku => ktr_units); (case ha => (walk_at "NTn")); (case hb => (walk_at "NTa")); (case hc => (walk_at "NTo")); intro r9 tl9 h9 tk9 F9 N9 ho9; obtain ⟨a9, s9, q9, u9, w9, e9, hm9, hp9, hq9⟩ := ho9; subst e9; subst hp9; subst hq9; (try dsimp only); (try k_fold)))
  k_with "NT call ref" => (k_here; (with_reducible show wpAny _ _ (PySem.call (Value.ref 737) _ _) _ _ _); k_dflt (refine' Does.use (c_lless _ _ _ _ _ _ ?ha ?hb ?hc ?hd ?he) ?k1 ?k2 ?k3 ?k4 ?k5 ?kK ?kd ?ku ?_; (case k1 => k_asm); (case k2 => k_asm); (case k3 => k_asm); (case k4 => k_asm); (case k5 => k_asm); (case kK => first | exact rfl | assumption); (case kd => ktr_room); (case ku => ktr_units); (case ha => (walk_at "NTn")); (case hb => (walk_at "NTn")); (case hc => (walk_at "NTa")); (case hd => (walk_at "NTo")); (case he => (walk_at "NTo")); intro r9 tl9 h9 tk9 F9 N9 ho9; obtain ⟨u9, e9⟩ := ho9; subst e9; (try dsimp only); (try k_fold)))
  k_with "NT call ref" => (k_here; (with_reducible show wpAny _ _ (PySem.call (Value.ref 723) _ _) _ _ _); k_dflt (refine' Does.use (c_lshownR _ _ _ _ ?ha) ?k1 ?k2 ?k3 ?k4 ?k5 ?kK ?kd ?ku ?_; (case k1 => k_asm); (case k2 => k_asm); (case k3 => k_asm); (case k4 => k_asm); (case k5 => k_asm); (case kK => first | exact rfl | assumption); (case kd => ktr_room); (case ku => ktr_units); (case ha => (walk_at "NTn")); intro r9 tl9 h9 tk9 F9 N9 ho9; obtain ⟨a9, u9, v9, w9, e9, hm9⟩ := ho9; subst e9; (try dsimp only); (try k_fold)))
  k_with "NT call ref" => (k_here; (with_reducible show wpAny _ _ (PySem.call (Value.ref 723) _ _) _ _ _); k_dflt (refine' Does.use (c_lshownE _ _ _ ?ha ?hb) ?k1 ?k2 ?k3 ?k4 ?k5 ?kK ?kd ?ku ?_; (case k1 => k_asm); (case k2 => k_asm); (case k3 => k_asm); (case k4 => k_asm); (case k5 => k_asm); (case kK => first | exact rfl | assumption); (case kd => ktr_room); (case ku => ktr_units); (case ha => (walk_at "NTn")); (case hb => first | assumption | exact ex_isReal _ | rfl); intro r9 tl9 h9 tk9 F9 N9 ho9; obtain ⟨a9, u9, v9, w9, e9, hm9⟩ := ho9; subst e9; (try dsimp only); (try k_fold)))
  k_with "NT call ref" => (k_here; (with_reducible show wpAny _ _ (PySem.call (Value.ref 709) _ _) _ _ _); k_dflt (refine' Does.use (c_lreal _ _ _ _ _) ?k1 ?k2 ?k3 ?k4 ?k5 ?kK ?kd ?ku ?_; (case k1 => k_asm); (case k2 => k_asm); (case k3 => k_asm); (case k4 => k_asm); (case k5 => k_asm); (case kK => first | exact rfl | assumption); (case kd => ktr_room); (case ku => ktr_units);  intro r9 tl9 h9 tk9 F9 N9 ho9; obtain ⟨m9, e9, hm9, hn9⟩ := ho9; (try dsimp only); (try k_fold)))
  k_with "NT call ref" => (k_here; (with_reducible show wpAny _ _ (PySem.call (Value.ref 702) _ _) _ _ _); k_dflt (refine' Does.use (c_lnear _ _ _ _ _ _ _ ?ha ?hb ?hc ?hd ?he ?hf) ?k1 ?k2 ?k3 ?k4 ?k5 ?kK ?kd ?ku ?_; (case k1 => k_asm); (case k2 => k_asm); (case k3 => k_asm); (case k4 => k_asm); (case k5 => k_asm); (case kK => first | exact rfl | assumption); (case kd => ktr_room); (case ku => ktr_units); (case ha => (walk_at "NTa")); (case hb => (walk_at "NTa")); (case hc => (walk_at "NTa")); (case hd => (walk_at "NTa")); (case he => (walk_at "NTa")); (case hf => (walk_at "NTa")); intro r9 tl9 h9 tk9 F9 N9 ho9; obtain ⟨a9, m9, e9, u9, w9, q9, hm9, hs9⟩ := ho9; subst q9; (try dsimp only); (try k_fold)))
  k_with "NT call ref" => (k_here; (with_reducible show wpAny _ _ (PySem.call (Value.ref 744) _ _) _ _ _); k_dflt (refine' Does.use (c_lnext _ _ _ _ _ _ _ _ ?ha ?hb ?hc ?hd ?he ?hf ?hg ?hh ?hi ?hj) ?k1 ?k2 ?k3 ?k4 ?k5 ?kK ?kd ?ku ?_; (case k1 => k_asm); (case k2 => k_asm); (case k3 => k_asm); (case k4 => k_asm); (case k5 => k_asm); (case kK => first | exact rfl | assumption); (case kd => ktr_room); (case ku => ktr_units); (case ha => (walk_at "NTn")); (case hb => (walk_at "NTa")); (case hc => (walk_at "NTa")); (case hd => (walk_at "NTa")); (case he => (walk_at "NTa")); (case hf => (walk_at "NTa")); (case hg => (walk_at "NTa")); (case hh => (walk_at "NTa")); (case hi => (walk_at "NTa")); (case hj => (walk_at "NTa")); intro r9 tl9 h9 tk9 F9 N9 ho9; obtain ⟨a9, m9, e9, u9, w9, x9, q9, hm9, hs9⟩ := ho9; subst q9; (try dsimp only); (try k_fold)))
  k_with "exec While Compare cons nil" => refine NT.Halt.out ?_
  k_with "state" => first
    | exact grow_start (by assumption)
    | exact grow_turn hp1 (by assumption) (by assumption)
  k_with "measure" => exact grow_meas (by assumption) (by assumption) (by assumption)
  k_steps
  · exact ret_all hret (by assumption) (by assumption) (by ktd_sub) ⟨_, .whole, ⟨by omega, by omega⟩⟩
  · exact ret_all hret (by assumption) (by assumption) (by ktd_sub) ⟨_, .whole, ⟨by omega, by omega⟩⟩
  · rename NumIn _ _ _ => hN
    exact ret_all hret (by assumption) (by assumption) (by ktd_sub) ⟨_, hN.mono (by ktd_sub), ⟨by omega, by omega, by omega, by omega, l5⟩⟩
  · refine Halt.put ?_
    rename NearSpec _ _ _ _ _ => hS
    obtain ⟨ok, e1, e2⟩ := near_ok hp1 hp2 (by omega) (by omega) (by omega) (by omega) hS
    have hb := ok_lt' ok
    obtain ⟨r1, r2, r3, r4⟩ := real_bnd hp2 ok
    k_while_given ["mantissa!", "exponent!"] (fun M0 E0 _ mm ee => GrowInv p M0 E0 mm ee) (fun M0 E0 _ mm _ => ((2 : Int) ^ (p - 1).toNat - (mm.natAbs : Int)).toNat) "mantissa" "exponent"
    k_steps
    all_goals (
      rename NumIn _ _ _ => hN
      first
        | exact ret_all hret (by assumption) (by assumption) (by ktd_sub) ⟨_, hN.mono (by ktd_sub), grown_ok (way := 1) hp1 hp2 (by assumption) hb e1 e2 (grow_end hp1 hp2 (by assumption) hb (by assumption) (by assumption)) (by assumption) (by decide) (by decide) (by assumption)⟩
        | exact ret_all hret (by assumption) (by assumption) (by ktd_sub) ⟨_, hN.mono (by ktd_sub), grown_ok (way := -1) hp1 hp2 (by assumption) hb e1 e2 (grow_end hp1 hp2 (by assumption) hb (by assumption) (by assumption)) (by assumption) (by decide) (by decide) (by assumption)⟩)
  · rename NumIn _ _ _ => hN
    rename NearSpec _ _ _ _ _ => hS
    obtain ⟨ok, e1, e2⟩ := near_ok hp1 hp2 (by omega) (by omega) (by omega) (by omega) hS
    exact ret_all hret (by assumption) (by assumption) (by ktd_sub) ⟨_, hN.mono (by ktd_sub), norm_id ok (by assumption)⟩
  · rename NumIn _ _ _ => hN
    rename NearSpec _ _ _ _ _ => hS
    obtain ⟨ok, e1, e2⟩ := near_ok hp1 hp2 (by omega) (by omega) (by omega) (by omega) hS
    exact ret_all hret (by assumption) (by assumption) (by ktd_sub) ⟨_, hN.mono (by ktd_sub), norm_id ok (by assumption)⟩
theorem laid_NTW14_1 : True := by
  k_with "NT call ref" => (k_here; (with_reducible show wpAny _ _ (PySem.call (Value.ref 730) _ _) _ _ _); k_dflt (refine' Does.use (c_lnumber _ _ _ _ _ ?ha ?hb) ?k1 ?k2 ?k3 ?k4 ?k5 ?kK ?kd ?ku ?_; (case k1 => k_asm); (case k2 => k_asm); (case k3 => k_asm); (case k4 => k_asm); (case k5 => k_asm); (case kK => first | exact rfl | assumption); (case kd => ktr_room); (case ku => ktr_units); (case ha => (walk_at "NTa")); (case hb => (walk_at "NTa")); intro r9 tl9 h9 tk9 F9 N9 ho9; obtain ⟨x9, hx9, hk9⟩ := ho9; (try dsimp only); (try k_fold)))
  trivial
end
section
set_option maxRecDepth 100000 in
set_option maxHeartbeats 16000000 in
theorem c_lsingle {w : World} {mean mg mb} (news : List (Addr × Obj)) (p : Int) (t1 : Tok) (v : Value) (x : Num) (hv : NumIn news v x) (hp1 : 2 ≤ p) (hp2 : p ≤ 8) (ox : NumOk p x) :
    Does w mean mg mb 751 50 [.int p t1, v] news (fun _ r => r = .bool true) := by
  obtain ⟨f1, f2, f3, f4⟩ := frac_bnd hp2 ox
  obtain ⟨e1, e2⟩ := ex_low ox
  unfold Does
  k_fill
  intro dp un gd cn cs aF ccd cl outer A₀ base h₀ L mF s Q E B F X N T hK9 hD9 hU9 hret
  refine wpAny_call ?_
  k_dflt (refine' code_def (binds := [(Str.ofString "bits", .int p t1), (Str.ofString "number", v)]) ?k1 ?k2 ?k3 ?k4 ?k5 ?kA ?kF ?kK ?k6 ?k7 ?k8 ?k9 ?kB ?_ ?c2 ?c3 ?c4 ?c5; (case kA => exact rfl); (case kF => exact rfl); (case kK => assumption); (case k1 => k_asm); (case k2 => k_asm); (case k3 => k_asm); (case k4 => k_asm); (case k5 => k_asm); (case k6 => k_is); (case k7 => k_is); (case k8 => ktr_room); (case k9 => exact BindsTo.of_eq rfl); (case c5 => decide); (case kB => exact locs rfl); (case c2 => exact rfl); (case c3 => exact rfl); (case c4 => exact rfl); k_whole; intro g' L' h' FG' F' N' B' X' T'; (try dsimp only); (try k_fold))

  k_with_none
  k_with "NT subscriptTail Name Constant ref int" => (k_here; (with_reducible show wpAny _ _ (subscriptTail _ _ (Value.ref _) (Value.int _ _)) _ _ _); (with_unfolding_all refine' item_litK ?k1 ?k2 ?k3 ?k4 ?_ ?k6; (case k1 => exact News.isList (by k_asm) (by k_mem)); (case k2 => decide); (case k3 => decide); (case k4 => rfl); (case k6 => with_unfolding_all rfl); k_whole))
  k_with "NT call ref" => (k_here; (refine wpAny_call ?_); k_dflt (refine' code_def ?k1 ?k2 ?k3 ?k4 ?k5 ?kA ?kF ?kK ?k6 ?k7 ?k8 ?k9 ?kB ?_ ?c2 ?c3 ?c4 ?c5; (case kA => exact rfl); (case kF => exact rfl); (case kK => first | exact rfl | assumption); (case k1 => k_asm); (case k2 => k_asm); (case k3 => k_asm); (case k4 => k_asm); (case k5 => k_asm); (case k6 => k_is); (case k7 => k_is); (case k8 => ktr_room); (case k9 => exact BindsTo.of_eq rfl); (case c5 => decide); (case kB => exact locs rfl); (case c2 => exact rfl); (case c3 => exact rfl); (case c4 => exact rfl); k_whole; intro g' L' h' FG' F' N' B' X' T'; (try dsimp only); (try k_fold)))
  k_with "NT binaryOp Add ref ref" => (k_here; (with_reducible show wpAny _ _ (binaryOp _ (Value.ref _) (Value.ref _)) _ _ _); k_dflt (refine' kmk_add_lit ?F ?N ?a ?b ?e ?_ ?z; (case F => k_asm); (case N => k_asm); (case a => kmk_list); (case b => kmk_list); (case e => kl_lit); (case z => kl_room)); intro D' h' F' N' l1; (try dsimp only))
  k_with "NT compareOp NotEq ref ref" => (k_here; (with_reducible show wpAny _ _ (compareOp CmpOp.NotEq (Value.ref _) (Value.ref _)) _ _ _); k_dflt ((refine ne_dataH (by ke_read) (by ke_read) (by ke_shaped) (by ke_shaped) (by ktr_units) ?_); ke_norm))
  k_with "NT compareOp Eq ref ref" => (k_here; (with_reducible show wpAny _ _ (compareOp CmpOp.Eq (Value.ref _) (Value.ref _)) _ _ _); k_dflt ((refine eq_dataH (by ke_read) (by ke_read) (by ke_shaped) (by ke_shaped) (by ktr_units) ?_); ke_norm))
  k_with "NT exec For Name Name cons nil" => (k_here; (rename Fr _ _ _ _ => lF'); (with_unfolding_all refine' For_invVF lF' ?k1 ?k2 ?_; (case k1 => exact rfl); (case k2 => exact rfl); k_whole))
  k_with "NT exec For Name List cons nil" => (k_here; (rename Fr _ _ _ _ => lF'); (with_unfolding_all refine' For_invVF lF' ?k1 ?k2 ?_; (case k1 => exact rfl); (case k2 => exact rfl); k_whole))
  k_with "NT exec For Name Subscript cons nil" => (k_here; (rename Fr _ _ _ _ => lF'); (with_unfolding_all refine' For_invVF lF' ?k1 ?k2 ?_; (case k1 => exact rfl); (case k2 => exact rfl); k_whole))
  k_with "NT pyIter ref" => (k_here; (with_unfolding_all refine' iter_listUnr ?k0 ?k1 ?k2 ?k3 ?k4 ?k5 ?_; (case k0 => exact rfl); (case k1 => k_asm); (case k2 => k_asm); (case k3 => k_mem); (case k4 => exact rfl); (case k5 => exact rfl); k_whole); intro i9 l9)
  k_with "NT UnrEnd" => (refine UnrEnd.intro (by assumption) (by assumption) _ ?ks (offOf (by assumption)) ⟨?km, ?_⟩; (case ks => ktd_sub); (case km => k_mem))
  k_with "NT ite" => (k_openite; k_dflt (first | (refine ite_pos ?kc ?_; (case kc => first | omega | (simp only [decide_eq_true_eq, decide_eq_false_iff_not, beq_iff_eq, bne_iff_ne, ne_eq, Bool.not_eq_true', Bool.not_eq_false', Bool.and_eq_true, Bool.and_eq_false_iff, Bool.or_eq_true, Bool.not_not]; done) | ((simp only [decide_eq_true_eq, decide_eq_false_iff_not, beq_iff_eq, bne_iff_ne, ne_eq, Bool.not_eq_true', Bool.not_eq_false', Bool.and_eq_true, Bool.and_eq_false_iff, Bool.or_eq_true, Bool.not_not]); omega) | (simp; done))) | (refine ite_neg ?kc ?_; (case kc => first | omega | (simp only [decide_eq_true_eq, decide_eq_false_iff_not, beq_iff_eq, bne_iff_ne, ne_eq, Bool.not_eq_true', Bool.not_eq_false', Bool.and_eq_true, Bool.and_eq_false_iff, Bool.or_eq_true, Bool.not_not]; done) | ((simp only [decide_eq_true_eq, decide_eq_false_iff_not, beq_iff_eq, bne_iff_ne, ne_eq, Bool.not_eq_true', Bool.not_eq_false', Bool.and_eq_true, Bool.and_eq_false_iff, Bool.or_eq_true, Bool.not_not]); omega) | (simp; done)))))
  k_with "NT NTn" => first | assumption | exact NumIn.whole | exact NumIn.mono (by assumption) (by ktd_sub) | exact NumIn.real (by k_mem) (by k_mem) | exact NumIn.ratio (by k_mem) (by k_mem)
  k_with "NT NTt" => first | assumption | exact ⟨_, _, _, _, by k_mem, by k_mem⟩
  k_with "NT NTm" => first | assumption | ktr_member | k_mem
  k_with "NT NTo" => assumption
  k_with "NT NTa" => first | assumption | omega | decide
  k_with "NT binaryOp LShift int int" => (refine lshift_int_small ?kb1 ?kb2 ?kb3 ?_; (case kb1 => walk_at "NTa"); (case kb2 => walk_at "NTa"); (case kb3 => walk_at "NTa"))
  k_with "NT binaryOp Pow int int" => (refine pow_int_small ?kb1 ?kb2 ?kb3 ?_; (case kb1 => walk_at "NTa"); (case kb2 => walk_at "NTa"); (case kb3 => walk_at "NTa"))
  k_with "NT binaryOp RShift int int" => (refine rshift_int ?kb1 ?_; (case kb1 => walk_at "NTa"))
  k_with "NT binaryOp FloorDiv int int" => (refine floordiv_int ?kb1 ?_ (Or.inl (PyProof.noPylong_small ?kb2)); (case kb1 => walk_at "NTa"); (case kb2 => walk_at "NTa"))
  k_with "NT binaryOp Mult int int" => (refine mul_int ?_ ?kb1; rotate_left; (case kb1 => first | exact mulSignOk _ _ | exact IntMulOk.of_left (intBits_le_64 (by walk_at "NTa") (by walk_at "NTa")) | exact IntMulOk.of_right (intBits_le_64 (by walk_at "NTa") (by walk_at "NTa"))))
  k_with "NT call ref" => (k_here; (with_reducible show wpAny _ _ (PySem.call (Value.ref 695) _ _) _ _ _); k_dflt (refine' Does.use (c_low _ _ _ _ _ ?ha ?hb) ?k1 ?k2 ?k3 ?k4 ?k5 ?kK ?kd ?ku ?_; (case k1 => k_asm); (case k2 => k_asm); (case k3 => k_asm); (case k4 => k_asm); (case k5 => k_asm); (case kK => first | exact rfl | assumption); (case kd => ktr_room); (case ku => ktr_units); (case ha => omega); (case hb => omega); intro r9 tl9 h9 tk9 F9 N9 ho9; obtain ⟨a9, p9, q9, u9, v9, e9, hm9, hp9, hq9⟩ := ho9; subst e9; subst hp9; subst hq9; (try dsimp only); (try k_fold)))
  k_with "NT call ref" => (k_here; (with_reducible show wpAny _ _ (PySem.call (Value.ref 96) _ _) _ _ _); k_dflt (refine' Does.use (c_Real _ _ _ _ _) ?k1 ?k2 ?k3 ?k4 ?k5 ?kK ?kd ?ku ?_; (case k1 => k_asm); (case k2 => k_asm); (case k3 => k_asm); (case k4 => k_asm); (case k5 => k_asm); (case kK => first | exact rfl | assumption); (case kd => ktr_room); (case ku => ktr_units);  intro r9 tl9 h9 tk9 F9 N9 ho9; (try dsimp only); (try k_fold)))
  k_with "NT call ref" => (k_here; (with_reducible show wpAny _ _ (PySem.call (Value.ref 264) _ _) _ _ _); k_dflt (refine' Does.use (c_Ratio _ _ _ _ _) ?k1 ?k2 ?k3 ?k4 ?k5 ?kK ?kd ?ku ?_; (case k1 => k_asm); (case k2 => k_asm); (case k3 => k_asm); (case k4 => k_asm); (case k5 => k_asm); (case kK => first | exact rfl | assumption); (case kd => ktr_room); (case ku => ktr_units);  intro r9 tl9 h9 tk9 F9 N9 ho9; (try dsimp only); (try k_fold)))
  k_with "NT call ref" => (k_here; (with_reducible show wpAny _ _ (PySem.call (Value.ref 107) _ _) _ _ _); k_dflt (refine' Does.use (c_size _ _ _) ?k1 ?k2 ?k3 ?k4 ?k5 ?kK ?kd ?ku ?_; (case k1 => k_asm); (case k2 => k_asm); (case k3 => k_asm); (case k4 => k_asm); (case k5 => k_asm); (case kK => first | exact rfl | assumption); (case kd => ktr_room); (case ku => ktr_units);  intro r9 tl9 h9 tk9 F9 N9 ho9; obtain ⟨u9, e9⟩ := ho9; subst e9; (try dsimp only); (try k_fold)))
  k_with "NT call ref" => (k_here; (with_reducible show wpAny _ _ (PySem.call (Value.ref 114) _ _) _ _ _); k_dflt (refine' Does.use (c_sow _ _ _) ?k1 ?k2 ?k3 ?k4 ?k5 ?kK ?kd ?ku ?_; (case k1 => k_asm); (case k2 => k_asm); (case k3 => k_asm); (case k4 => k_asm); (case k5 => k_asm); (case kK => first | exact rfl | assumption); (case kd => ktr_room); (case ku => ktr_units);  intro r9 tl9 h9 tk9 F9 N9 ho9; obtain ⟨u9, e9⟩ := ho9; subst e9; (try dsimp only); (try k_fold)))
  k_with "NT call ref" => (k_here; (with_reducible show wpAny _ _ (PySem.call (Value.ref 121) _ _) _ _ _); k_dflt (refine' Does.use (c_zeros _ _ _ _ _ ?ha) ?k1 ?k2 ?k3 ?k4 ?k5 ?kK ?kd ?ku ?_; (case k1 => k_asm); (case k2 => k_asm); (case k3 => k_asm); (case k4 => k_asm); (case k5 => k_asm); (case kK => first | exact rfl | assumption); (case kd => ktr_room); (case ku => ktr_units); (case ha => assumption); intro r9 tl9 h9 tk9 F9 N9 ho9; obtain ⟨u9, e9⟩ := ho9; subst e9; (try dsimp only); (try k_fold)))
  k_with "NT call ref" => (k_here; (with_reducible show wpAny _ _ (PySem.call (Value.ref 128) _ _) _ _ _); k_dflt (refine' Does.use (c_lean _ _ _ _ _ ?ha ?ha2 ?hb ?hc) ?k1 ?k2 ?k3 ?k4 ?k5 ?kK ?kd ?ku ?_; (case k1 => k_asm); (case k2 => k_asm); (case k3 => k_asm); (case k4 => k_asm); (case k5 => k_asm); (case kK => first | exact rfl | assumption); (case kd => ktr_room); (case ku => ktr_units); (case ha => first | (walk_at "NTa") | exact (signMul (by omega) (by omega)).1); (case ha2 => first | (walk_at "NTa") | exact (signMul (by omega) (by omega)).2); (case hb => (walk_at "NTa")); (case hc => (walk_at "NTa")); intro r9 tl9 h9 tk9 F9 N9 ho9; obtain ⟨m9, e9, hm9, hn9⟩ := ho9; (try dsimp only); (try k_fold)))
  k_with "NT call ref" => (k_here; (with_reducible show wpAny _ _ (PySem.call (Value.ref 135) _ _) _ _ _); k_dflt (refine' Does.use (c_nshift _ _ _ _ _ ?ha ?hb ?hc) ?k1 ?k2 ?k3 ?k4 ?k5 ?kK ?kd ?ku ?_; (case k1 => k_asm); (case k2 => k_asm); (case k3 => k_asm); (case k4 => k_asm); (case k5 => k_asm); (case kK => first | exact rfl | assumption); (case kd => ktr_room); (case ku => ktr_units); (case ha => (walk_at "NTa")); (case hb => (walk_at "NTa")); (case hc => (walk_at "NTa")); intro r9 tl9 h9 tk9 F9 N9 ho9; obtain ⟨R9, u9, e9, hR9, hlo9, hhi9⟩ := ho9; subst e9; (try dsimp only); (try k_fold)))
  k_with "NT call ref" => (k_here; (with_reducible show wpAny _ _ (PySem.call (Value.ref 149) _ _) _ _ _); k_dflt (refine' Does.use (c_sticky _ _ _ _ ?ha ?hb) ?k1 ?k2 ?k3 ?k4 ?k5 ?kK ?kd ?ku ?_; (case k1 => k_asm); (case k2 => k_asm); (case k3 => k_asm); (case k4 => k_asm); (case k5 => k_asm); (case kK => first | exact rfl | assumption); (case kd => ktr_room); (case ku => ktr_units); (case ha => (walk_at "NTa")); (case hb => (walk_at "NTa")); intro r9 tl9 h9 tk9 F9 N9 ho9; obtain ⟨u9, e9⟩ := ho9; subst e9; (try dsimp only); (try k_fold)))
  k_with "NT call ref" => (k_here; (with_reducible show wpAny _ _ (PySem.call (Value.ref 142) _ _) _ _ _); k_dflt (refine' Does.use (c_sround _ _ _ _ _ _ _ ?ha ?hb ?hc ?hd ?he ?hf) ?k1 ?k2 ?k3 ?k4 ?k5 ?kK ?kd ?ku ?_; (case k1 => k_asm); (case k2 => k_asm); (case k3 => k_asm); (case k4 => k_asm); (case k5 => k_asm); (case kK => first | exact rfl | assumption); (case kd => ktr_room); (case ku => ktr_units); (case ha => (walk_at "NTa")); (case hb => (walk_at "NTa")); (case hc => (walk_at "NTa")); (case hd => (walk_at "NTa")); (case he => (walk_at "NTa")); (case hf => (walk_at "NTa")); intro r9 tl9 h9 tk9 F9 N9 ho9; obtain ⟨R9, m9, e9, hm9, hR9, hn9⟩ := ho9; (try dsimp only); (try k_fold)))
  k_with "NT call ref" => (k_here; (with_reducible show wpAny _ _ (PySem.call (Value.ref 156) _ _) _ _ _); k_dflt (refine' Does.use (c_rounded _ _ _ _ _ _ _ ?ha ?hb ?hc ?hd ?he ?hf) ?k1 ?k2 ?k3 ?k4 ?k5 ?kK ?kd ?ku ?_; (case k1 => k_asm); (case k2 => k_asm); (case k3 => k_asm); (case k4 => k_asm); (case k5 => k_asm); (case kK => first | exact rfl | assumption); (case kd => ktr_room); (case ku => ktr_units); (case ha => (walk_at "NTa")); (case hb => (walk_at "NTa")); (case hc => (walk_at "NTa")); (case hd => (walk_at "NTa")); (case he => (walk_at "NTa")); (case hf => (walk_at "NTa")); intro r9 tl9 h9 tk9 F9 N9 ho9; obtain ⟨m9, e9, hm9, hs9⟩ := ho9; (try dsimp only); (try k_fold)))
  k_with "NT call ref" => (k_here; (with_reducible show wpAny _ _ (PySem.call (Value.ref 163) _ _) _ _ _); k_dflt (refine' Does.use (c_exparts _ _ _ _ ?ha ?hb ?hc ?hd ?he) ?k1 ?k2 ?k3 ?k4 ?k5 ?kK ?kd ?ku ?_; (case k1 => k_asm); (case k2 => k_asm); (case k3 => k_asm); (case k4 => k_asm); (case k5 => k_asm); (case kK => first | exact rfl | assumption); (case kd => ktr_room); (case ku => ktr_units); (case ha => (walk_at "NTn")); (case hb => (walk_at "NTa")); (case hc => (walk_at "NTa")); (case hd => (walk_at "NTa")); (case he => (walk_at "NTa")); intro r9 tl9 h9 tk9 F9 N9 ho9; obtain ⟨a9, p9, q9, u9, v9, e9, hm9, hp9, hq9⟩ := ho9; subst e9; subst hp9; subst hq9; (try dsimp only); (try k_fold)))
  k_with "NT call ref" => (k_here; (with_reducible show wpAny _ _ (PySem.call (Value.ref 170) _ _) _ _ _); k_dflt (refine' Does.use (c_place _ _ _ _ ?ha) ?k1 ?k2 ?k3 ?k4 ?k5 ?kK ?kd ?ku ?_; (case k1 => k_asm); (case k2 => k_asm); (case k3 => k_asm); (case k4 => k_asm); (case k5 => k_asm); (case kK => first | exact rfl | assumption); (case kd => ktr_room); (case ku => ktr_units); (case ha => (walk_at "NTn")); intro r9 tl9 h9 tk9 F9 N9 ho9; obtain ⟨u9, e9⟩ := ho9; subst e9; (try dsimp only); (try k_fold)))
  k_with "NT call ref" => (k_here; (with_reducible show wpAny _ _ (PySem.call (Value.ref 177) _ _) _ _ _); k_dflt (refine' Does.use (c_signof _ _ _ _ ?ha) ?k1 ?k2 ?k3 ?k4 ?k5 ?kK ?kd ?ku ?_; (case k1 => k_asm); (case k2 => k_asm); (case k3 => k_asm); (case k4 => k_asm); (case k5 => k_asm); (case kK => first | exact rfl | assumption); (case kd => ktr_room); (case ku => ktr_units); (case ha => (walk_at "NTn")); intro r9 tl9 h9 tk9 F9 N9 ho9; obtain ⟨u9, e9⟩ := ho9; subst e9; (try dsimp only); (try k_fold)))
  k_with "NT call ref" => (k_here; (with_reducible show wpAny _ _ (PySem.call (Value.ref 184) _ _) _ _ _); k_dflt (refine' Does.use (c_negative _ _ _ _ ?ha) ?k1 ?k2 ?k3 ?k4 ?k5 ?kK ?kd ?ku ?_; (case k1 => k_asm); (case k2 => k_asm); (case k3 => k_asm); (case k4 => k_asm); (case k5 => k_asm); (case kK => first | exact rfl | assumption); (case kd => ktr_room); (case ku => ktr_units); (case ha => (walk_at "NTn")); intro r9 tl9 h9 tk9 F9 N9 ho9; (try dsimp only); (try k_fold)))
  k_with "NT call ref" => (k_here; (with_reducible show wpAny _ _ (PySem.call (Value.ref 191) _ _) _ _ _); k_dflt (refine' Does.use (c_magnitude _ _ _ _ ?ha) ?k1 ?k2 ?k3 ?k4 ?k5 ?kK ?kd ?ku ?_; (case k1 => k_asm); (case k2 => k_asm); (case k3 => k_asm); (case k4 => k_asm); (case k5 => k_asm); (case kK => first | exact rfl | assumption); (case kd => ktr_room); (case ku => ktr_units); (case ha => (walk_at "NTn")); intro r9 tl9 h9 tk9 F9 N9 ho9; (try dsimp only); (try k_fold)))
  k_with "NT call ref" => (k_here; (with_reducible show wpAny _ _ (PySem.call (Value.ref 198) _ _) _ _ _); k_dflt (refine' Does.use (c_same _ _ _ _ _ _ _ ?ha ?hb) ?k1 ?k2 ?k3 ?k4 ?k5 ?kK ?kd ?ku ?_; (case k1 => k_asm); (case k2 => k_asm); (case k3 => k_asm); (case k4 => k_asm); (case k5 => k_asm); (case kK => first | exact rfl | assumption); (case kd => ktr_room); (case ku => ktr_units); (case ha => (walk_at "NTn")); (case hb => (walk_at "NTn")); intro r9 tl9 h9 tk9 F9 N9 ho9; (have e9 : _ = _ := ho9); clear ho9; subst e9; (try dsimp only); (try k_fold)))
  k_with "NT call ref" => (k_here; (with_reducible show wpAny _ _ (PySem.call (Value.ref 205) _ _) _ _ _); k_dflt (refine' Does.use (c_cmpmag _ _ _ _ _ _ _ ?ha ?hb ?hc ?hd ?he ?hf ?hg ?hh ?hi ?hj) ?k1 ?k2 ?k3 ?k4 ?k5 ?kK ?kd ?ku ?_; (case k1 => k_asm); (case k2 => k_asm); (case k3 => k_asm); (case k4 => k_asm); (case k5 => k_asm); (case kK => first | exact rfl | assumption); (case kd => ktr_room); (case ku => ktr_units); (case ha => (walk_at "NTn")); (case hb => (walk_at "NTn")); (case hc => (walk_at "NTa")); (case hd => (walk_at "NTa")); (case he => (walk_at "NTa")); (case hf => (walk_at "NTa")); (case hg => (walk_at "NTa")); (case hh => (walk_at "NTa")); (case hi => (walk_at "NTa")); (case hj => (walk_at "NTa")); intro r9 tl9 h9 tk9 F9 N9 ho9; obtain ⟨u9, e9⟩ := ho9; subst e9; (try dsimp only); (try k_fold)))
  k_with "NT call ref" => (k_here; (with_reducible show wpAny _ _ (PySem.call (Value.ref 212) _ _) _ _ _); k_dflt (refine' Does.use (c_cmpreals _ _ _ _ _ _ _ ?ha ?hb ?hc ?hd ?he ?hf ?hg ?hh ?hi ?hj) ?k1 ?k2 ?k3 ?k4 ?k5 ?kK ?kd ?ku ?_; (case k1 => k_asm); (case k2 => k_asm); (case k3 => k_asm); (case k4 => k_asm); (case k5 => k_asm); (case kK => first | exact rfl | assumption); (case kd => ktr_room); (case ku => ktr_units); (case ha => (walk_at "NTn")); (case hb => (walk_at "NTn")); (case hc => (walk_at "NTa")); (case hd => (walk_at "NTa")); (case he => (walk_at "NTa")); (case hf => (walk_at "NTa")); (case hg => (walk_at "NTa")); (case hh => (walk_at "NTa")); (case hi => (walk_at "NTa")); (case hj => (walk_at "NTa")); intro r9 tl9 h9 tk9 F9 N9 ho9; obtain ⟨u9, e9⟩ := ho9; subst e9; (try dsimp only); (try k_fold)))
  k_with "NT call ref" => (k_here; (with_reducible show wpAny _ _ (PySem.call (Value.ref 219) _ _) _ _ _); k_dflt (refine' Does.use (c_fullm _ _ _ _ _ _ ?ha ?hb ?hc ?hd ?he) ?k1 ?k2 ?k3 ?k4 ?k5 ?kK ?kd ?ku ?_; (case k1 => k_asm); (case k2 => k_asm); (case k3 => k_asm); (case k4 => k_asm); (case k5 => k_asm); (case kK => first | exact rfl | assumption); (case kd => ktr_room); (case ku => ktr_units); (case ha => (walk_at "NTn")); (case hb => (walk_at "NTa")); (case hc => (walk_at "NTa")); (case hd => (walk_at "NTa")); (case he => (walk_at "NTa")); intro r9 tl9 h9 tk9 F9 N9 ho9; obtain ⟨a9, P9, u9, v9, e9, hm9, hP9⟩ := ho9; subst e9; subst hP9; (try dsimp only); (try k_fold)))
  k_with "NT call ref" => (k_here; (with_reducible show wpAny _ _ (PySem.call (Value.ref 226) _ _) _ _ _); k_dflt (refine' Does.use (c_farther _ _ _ _ _ _ ?ha ?hb ?hc ?hd ?he ?hf ?hg ?hh ?hi) ?k1 ?k2 ?k3 ?k4 ?k5 ?kK ?kd ?ku ?_; (case k1 => k_asm); (case k2 => k_asm); (case k3 => k_asm); (case k4 => k_asm); (case k5 => k_asm); (case kK => first | exact rfl | assumption); (case kd => ktr_room); (case ku => ktr_units); (case ha => (walk_at "NTn")); (case hb => (walk_at "NTa")); (case hc => (walk_at "NTa")); (case hd => (walk_at "NTa")); (case he => (walk_at "NTa")); (case hf => (walk_at "NTa")); (case hg => (walk_at "NTa")); (case hh => (walk_at "NTa")); (case hi => (walk_at "NTa")); intro r9 tl9 h9 tk9 F9 N9 ho9; obtain ⟨m9, e9, hm9, hn9⟩ := ho9; (try dsimp only); (try k_fold)))
  k_with "NT call ref" => (k_here; (with_reducible show wpAny _ _ (PySem.call (Value.ref 233) _ _) _ _ _); k_dflt (refine' Does.use (c_nearer _ _ _ _ _ _ ?ha ?hb ?hc ?hd ?he ?hf ?hg ?hh ?hi) ?k1 ?k2 ?k3 ?k4 ?k5 ?kK ?kd ?ku ?_; (case k1 => k_asm); (case k2 => k_asm); (case k3 => k_asm); (case k4 => k_asm); (case k5 => k_asm); (case kK => first | exact rfl | assumption); (case kd => ktr_room); (case ku => ktr_units); (case ha => (walk_at "NTn")); (case hb => (walk_at "NTa")); (case hc => (walk_at "NTa")); (case hd => (walk_at "NTa")); (case he => (walk_at "NTa")); (case hf => (walk_at "NTa")); (case hg => (walk_at "NTa")); (case hh => (walk_at "NTa")); (case hi => (walk_at "NTa")); intro r9 tl9 h9 tk9 F9 N9 ho9; obtain ⟨m9, e9, hm9, hn9⟩ := ho9; (try dsimp only); (try k_fold)))
  k_with "NT call ref" => (k_here; (with_reducible show wpAny _ _ (PySem.call (Value.ref 240) _ _) _ _ _); k_dflt (refine' Does.use (c_above _ _ _ _ _ _ ?ha ?hb ?hc ?hd ?he ?hf ?hg ?hh ?hi) ?k1 ?k2 ?k3 ?k4 ?k5 ?kK ?kd ?ku ?_; (case k1 => k_asm); (case k2 => k_asm); (case k3 => k_asm); (case k4 => k_asm); (case k5 => k_asm); (case kK => first | exact rfl | assumption); (case kd => ktr_room); (case ku => ktr_units); (case ha => (walk_at "NTn")); (case hb => (walk_at "NTa")); (case hc => (walk_at "NTa")); (case hd => (walk_at "NTa")); (case he => (walk_at "NTa")); (case hf => (walk_at "NTa")); (case hg => (walk_at "NTa")); (case hh => (walk_at "NTa")); (case hi => (walk_at "NTa")); intro r9 tl9 h9 tk9 F9 N9 ho9; obtain ⟨m9, e9, hm9, hn9⟩ := ho9; (try dsimp only); (try k_fold)))
  k_with "NT call ref" => (k_here; (with_reducible show wpAny _ _ (PySem.call (Value.ref 247) _ _) _ _ _); k_dflt (refine' Does.use (c_below _ _ _ _ _ _ ?ha ?hb ?hc ?hd ?he ?hf ?hg ?hh ?hi) ?k1 ?k2 ?k3 ?k4 ?k5 ?kK ?kd ?ku ?_; (case k1 => k_asm); (case k2 => k_asm); (case k3 => k_asm); (case k4 => k_asm); (case k5 => k_asm); (case kK => first | exact rfl | assumption); (case kd => ktr_room); (case ku => ktr_units); (case ha => (walk_at "NTn")); (case hb => (walk_at "NTa")); (case hc => (walk_at "NTa")); (case hd => (walk_at "NTa")); (case he => (walk_at "NTa")); (case hf => (walk_at "NTa")); (case hg => (walk_at "NTa")); (case hh => (walk_at "NTa")); (case hi => (walk_at "NTa")); intro r9 tl9 h9 tk9 F9 N9 ho9; obtain ⟨m9, e9, hm9, hn9⟩ := ho9; (try dsimp only); (try k_fold)))
  k_with "NT call builtin:isinstance" => (k_here; (with_reducible show wpAny _ _ (PySem.call (Value.builtin "isinstance") [_, Value.ref 96]) _ _ _); k_dflt (refine' isi_num ?k1 ?k2 ?k3 ?k4 ?k5 ?_; (case k1 => k_asm); (case k2 => k_asm); (case k3 => k_asm); (case k4 => walk_at "NTn"); (case k5 => first | assumption | exact rfl); k_whole; intro tk9; (try dsimp only [Num.isReal])))
  k_with "NT call ref" => (k_here; (with_reducible show wpAny _ _ (PySem.call (Value.ref 345) _ _) _ _ _); k_dflt (refine' Does.use (c_isinexact _ _ _ ?ha) ?k1 ?k2 ?k3 ?k4 ?k5 ?kK ?kd ?ku ?_; (case k1 => k_asm); (case k2 => k_asm); (case k3 => k_asm); (case k4 => k_asm); (case k5 => k_asm); (case kK => first | exact rfl | assumption); (case kd => ktr_room); (case ku => ktr_units); (case ha => (walk_at "NTn")); intro r9 tl9 h9 tk9 F9 N9 ho9; (have e9 : _ = _ := ho9); clear ho9; subst e9; (try dsimp only); (try k_fold)))
  k_with "NT call ref" => (k_here; (with_reducible show wpAny _ _ (PySem.call (Value.ref 282) _ _) _ _ _); k_dflt (refine' Does.use (c_isexact _ _ _ ?ha) ?k1 ?k2 ?k3 ?k4 ?k5 ?kK ?kd ?ku ?_; (case k1 => k_asm); (case k2 => k_asm); (case k3 => k_asm); (case k4 => k_asm); (case k5 => k_asm); (case kK => first | exact rfl | assumption); (case kd => ktr_room); (case ku => ktr_units); (case ha => (walk_at "NTn")); intro r9 tl9 h9 tk9 F9 N9 ho9; (have e9 : _ = _ := ho9); clear ho9; subst e9; (try dsimp only); (try k_fold)))
  k_with "NT call ref" => (k_here; (with_reducible show wpAny _ _ (PySem.call (Value.ref 289) _ _) _ _ _); k_dflt (refine' Does.use (c_topof _ _ _ ?ha ?hb) ?k1 ?k2 ?k3 ?k4 ?k5 ?kK ?kd ?ku ?_; (case k1 => k_asm); (case k2 => k_asm); (case k3 => k_asm); (case k4 => k_asm); (case k5 => k_asm); (case kK => first | exact rfl | assumption); (case kd => ktr_room); (case ku => ktr_units); (case ha => (walk_at "NTn")); (case hb => first | assumption | rfl); intro r9 tl9 h9 tk9 F9 N9 ho9; obtain ⟨u9, e9⟩ := ho9; subst e9; (try dsimp only); (try k_fold)))
  k_with "NT call ref" => (k_here; (with_reducible show wpAny _ _ (PySem.call (Value.ref 296) _ _) _ _ _); k_dflt (refine' Does.use (c_bottomof _ _ _ ?ha ?hb) ?k1 ?k2 ?k3 ?k4 ?k5 ?kK ?kd ?ku ?_; (case k1 => k_asm); (case k2 => k_asm); (case k3 => k_asm); (case k4 => k_asm); (case k5 => k_asm); (case kK => first | exact rfl | assumption); (case kd => ktr_room); (case ku => ktr_units); (case ha => (walk_at "NTn")); (case hb => first | assumption | rfl); intro r9 tl9 h9 tk9 F9 N9 ho9; obtain ⟨u9, e9⟩ := ho9; subst e9; (try dsimp only); (try k_fold)))
  k_with "NT call ref" => (k_here; (with_reducible show wpAny _ _ (PySem.call (Value.ref 177) _ _) _ _ _); k_dflt (refine' Does.use (c_signof' _ _ _ ?ha ?hb) ?k1 ?k2 ?k3 ?k4 ?k5 ?kK ?kd ?ku ?_; (case k1 => k_asm); (case k2 => k_asm); (case k3 => k_asm); (case k4 => k_asm); (case k5 => k_asm); (case kK => first | exact rfl | assumption); (case kd => ktr_room); (case ku => ktr_units); (case ha => (walk_at "NTn")); (case hb => first | assumption | rfl); intro r9 tl9 h9 tk9 F9 N9 ho9; obtain ⟨u9, e9⟩ := ho9; subst e9; (try dsimp only); (try k_fold)))
  k_with "NT call ref" => (k_here; (with_reducible show wpAny _ _ (PySem.call (Value.ref 212) _ _) _ _ _); k_dflt (refine' Does.use (c_cmpreals' _ _ _ _ _ _ ?ha ?hb ?hc ?hd ?he ?hf ?hg) ?k1 ?k2 ?k3 ?k4 ?k5 ?kK ?kd ?ku ?_; (case k1 => k_asm); (case k2 => k_asm); (case k3 => k_asm); (case k4 => k_asm); (case k5 => k_asm); (case kK => first | exact rfl | assumption); (case kd => ktr_room); (case ku => ktr_units); (case ha => (walk_at "NTn")); (case hb => (walk_at "NTn")); (case hc => first | assumption | rfl); (case hd => first | assumption | rfl); (case he => (walk_at "NTa")); (case hf => (walk_at "NTo")); (case hg => (walk_at "NTo")); intro r9 tl9 h9 tk9 F9 N9 ho9; obtain ⟨u9, e9⟩ := ho9; subst e9; (try dsimp only); (try k_fold)))
  k_with "NT call ref" => (k_here; (with_reducible show wpAny _ _ (PySem.call (Value.ref 198) _ _) _ _ _); k_dflt (refine' Does.use (c_same' _ _ _ _ _ _ ?ha ?hb ?hc ?hd ?hf ?hg) ?k1 ?k2 ?k3 ?k4 ?k5 ?kK ?kd ?ku ?_; (case k1 => k_asm); (case k2 => k_asm); (case k3 => k_asm); (case k4 => k_asm); (case k5 => k_asm); (case kK => first | exact rfl | assumption); (case kd => ktr_room); (case ku => ktr_units); (case ha => (walk_at "NTn")); (case hb => (walk_at "NTn")); (case hc => first | assumption | rfl); (case hd => first | assumption | rfl); (case hf => (walk_at "NTo")); (case hg => (walk_at "NTo")); intro r9 tl9 h9 tk9 F9 N9 ho9; (have e9 : _ = _ := ho9); clear ho9; subst e9; (try dsimp only); (try k_fold)))
  k_with "NT call ref" => (k_here; (with_reducible show wpAny _ _ (PySem.call (Value.ref 163) _ _) _ _ _); k_dflt (refine' Does.use (c_exparts' _ _ _ _ ?ha ?hb ?hc ?hd) ?k1 ?k2 ?k3 ?k4 ?k5 ?kK ?kd ?ku ?_; (case k1 => k_asm); (case k2 => k_asm); (case k3 => k_asm); (case k4 => k_asm); (case k5 => k_asm); (case kK => first | exact rfl | assumption); (case kd => ktr_room); (case ku => ktr_units); (case ha => (walk_at "NTn")); (case hb => first | assumption | rfl); (case hc => (walk_at "NTa")); (case hd => (walk_at "NTo")); intro r9 tl9 h9 tk9 F9 N9 ho9; obtain ⟨a9, p9, q9, u9, v9, e9, hm9, hp9, hq9⟩ := ho9; subst e9; subst hp9; subst hq9; (try dsimp only); (try k_fold)))
  k_with "NT call ref" => (k_here; (with_reducible show wpAny _ _ (PySem.call (Value.ref 352) _ _) _ _ _); k_dflt (refine' Does.use (c_sign _ _ _ ?ha) ?k1 ?k2 ?k3 ?k4 ?k5 ?kK ?kd ?ku ?_; (case k1 => k_asm); (case k2 => k_asm); (case k3 => k_asm); (case k4 => k_asm); (case k5 => k_asm); (case kK => first | exact rfl | assumption); (case kd => ktr_room); (case ku => ktr_units); (case ha => (walk_at "NTn")); intro r9 tl9 h9 tk9 F9 N9 ho9; obtain ⟨u9, e9⟩ := ho9; subst e9; (try dsimp only); (try k_fold)))
  k_with "NT call ref" => (k_here; (with_reducible show wpAny _ _ (PySem.call (Value.ref 331) _ _) _ _ _); k_dflt (refine' Does.use (c_cmpexact _ _ _ _ _ ?ha ?hb ?hc ?hd ?he ?hf ?hg ?hh) ?k1 ?k2 ?k3 ?k4 ?k5 ?kK ?kd ?ku ?_; (case k1 => k_asm); (case k2 => k_asm); (case k3 => k_asm); (case k4 => k_asm); (case k5 => k_asm); (case kK => first | exact rfl | assumption); (case kd => ktr_room); (case ku => ktr_units); (case ha => (walk_at "NTn")); (case hb => (walk_at "NTn")); (case hc => first | assumption | rfl | exact ex_isReal _); (case hd => first | assumption | rfl | exact ex_isReal _); (case he => (walk_at "NTa")); (case hf => (walk_at "NTa")); (case hg => (walk_at "NTa")); (case hh => (walk_at "NTa")); intro r9 tl9 h9 tk9 F9 N9 ho9; obtain ⟨u9, e9⟩ := ho9; subst e9; (try dsimp only); (try k_fold)))
  k_with "NT call ref" => (k_here; (with_reducible show wpAny _ _ (PySem.call (Value.ref 338) _ _) _ _ _); k_dflt (refine' Does.use (c_eqexact _ _ _ _ _ _ ?ha ?hb ?hc ?hd ?hf ?hg) ?k1 ?k2 ?k3 ?k4 ?k5 ?kK ?kd ?ku ?_; (case k1 => k_asm); (case k2 => k_asm); (case k3 => k_asm); (case k4 => k_asm); (case k5 => k_asm); (case kK => first | exact rfl | assumption); (case kd => ktr_room); (case ku => ktr_units); (case ha => (walk_at "NTn")); (case hb => (walk_at "NTn")); (case hc => first | assumption | rfl); (case hd => first | assumption | rfl); (case hf => (walk_at "NTo")); (case hg => (walk_at "NTo")); intro r9 tl9 h9 tk9 F9 N9 ho9; (have e9 : _ = _ := ho9); clear ho9; subst e9; (try dsimp only); (try k_fold)))
  k_with "NT call ref" => (k_here; (with_reducible show wpAny _ _ (PySem.call (Value.ref 303) _ _) _ _ _); k_dflt (refine' Does.use (c_gcdof _ _ _ _ _) ?k1 ?k2 ?k3 ?k4 ?k5 ?kK ?kd ?ku ?_; (case k1 => k_asm); (case k2 => k_asm); (case k3 => k_asm); (case k4 => k_asm); (case k5 => k_asm); (case kK => first | exact rfl | assumption); (case kd => ktr_room); (case ku => ktr_units);  intro r9 tl9 h9 tk9 F9 N9 ho9; obtain ⟨u9, e9⟩ := ho9; subst e9; (try dsimp only); (try k_fold)))
  k_with "NT call ref" => (k_here; (with_reducible show wpAny _ _ (PySem.call (Value.ref 317) _ _) _ _ _); k_dflt (refine' Does.use (c_ratioof _ _ _ _ _ ?ha ?hb) ?k1 ?k2 ?k3 ?k4 ?k5 ?kK ?kd ?ku ?_; (case k1 => k_asm); (case k2 => k_asm); (case k3 => k_asm); (case k4 => k_asm); (case k5 => k_asm); (case kK => first | exact rfl | assumption); (case kd => ktr_room); (case ku => ktr_units); (case ha => (walk_at "NTa")); (case hb => (walk_at "NTa")); intro r9 tl9 h9 tk9 F9 N9 ho9; (try dsimp only); (try k_fold)))
  k_with "NT call ref" => (k_here; (with_reducible show wpAny _ _ (PySem.call (Value.ref 359) _ _) _ _ _); k_dflt (refine' Does.use (c_toexact _ _ _ _ ?ha ?hb ?hc) ?k1 ?k2 ?k3 ?k4 ?k5 ?kK ?kd ?ku ?_; (case k1 => k_asm); (case k2 => k_asm); (case k3 => k_asm); (case k4 => k_asm); (case k5 => k_asm); (case kK => first | exact rfl | assumption); (case kd => ktr_room); (case ku => ktr_units); (case ha => (walk_at "NTn")); (case hb => (walk_at "NTa")); (case hc => (walk_at "NTo")); intro r9 tl9 h9 tk9 F9 N9 ho9; (try dsimp only); (try k_fold)))
  k_with "NT call ref" => (k_here; (with_reducible show wpAny _ _ (PySem.call (Value.ref 366) _ _) _ _ _); k_dflt (refine' Does.use (c_toinexact _ _ _ _ _ ?ha ?hb ?hc ?hd) ?k1 ?k2 ?k3 ?k4 ?k5 ?kK ?kd ?ku ?_; (case k1 => k_asm); (case k2 => k_asm); (case k3 => k_asm); (case k4 => k_asm); (case k5 => k_asm); (case kK => first | exact rfl | assumption); (case kd => ktr_room); (case ku => ktr_units); (case ha => (walk_at "NTn")); (case hb => (walk_at "NTa")); (case hc => (walk_at "NTa")); (case hd => (walk_at "NTo")); intro r9 tl9 h9 tk9 F9 N9 ho9; obtain ⟨m9, e9, hm9, hs9, ho9⟩ := ho9; (try dsimp only); (try k_fold)))
  k_with "NT call ref" => (k_here; (with_reducible show wpAny _ _ (PySem.call (Value.ref 387) _ _) _ _ _); k_dflt (refine' Does.use (c_compare _ _ _ _ _ _ ?ha ?hb ?hc ?hd ?he) ?k1 ?k2 ?k3 ?k4 ?k5 ?kK ?kd ?ku ?_; (case k1 => k_asm); (case k2 => k_asm); (case k3 => k_asm); (case k4 => k_asm); (case k5 => k_asm); (case kK => first | exact rfl | assumption); (case kd => ktr_room); (case ku => ktr_units); (case ha => (walk_at "NTn")); (case hb => (walk_at "NTn")); (case hc => (walk_at "NTa")); (case hd => (walk_at "NTo")); (case he => (walk_at "NTo")); intro r9 tl9 h9 tk9 F9 N9 ho9; obtain ⟨u9, e9⟩ := ho9; subst e9; (try dsimp only); (try k_fold)))
  k_with "NT call ref" => (k_here; (with_reducible show wpAny _ _ (PySem.call (Value.ref 394) _ _) _ _ _); k_dflt (refine' Does.use (c_samenum _ _ _ _ _ _ ?ha ?hb ?hc ?hd) ?k1 ?k2 ?k3 ?k4 ?k5 ?kK ?kd ?ku ?_; (case k1 => k_asm); (case k2 => k_asm); (case k3 => k_asm); (case k4 => k_asm); (case k5 => k_asm); (case kK => first | exact rfl | assumption); (case kd => ktr_room); (case ku => ktr_units); (case ha => (walk_at "NTn")); (case hb => (walk_at "NTn")); (case hc => (walk_at "NTo")); (case hd => (walk_at "NTo")); intro r9 tl9 h9 tk9 F9 N9 ho9; (have e9 : _ = _ := ho9); clear ho9; subst e9; (try dsimp only); (try k_fold)))
  k_with "NT call ref" => (k_here; (with_reducible show wpAny _ _ (PySem.call (Value.ref 373) _ _) _ _ _); k_dflt (refine' Does.use (c_hasinexact _ _ _ _ _ _ ?hl ?ha ?hb) ?k1 ?k2 ?k3 ?k4 ?k5 ?kK ?kd ?ku ?_; (case k1 => k_asm); (case k2 => k_asm); (case k3 => k_asm); (case k4 => k_asm); (case k5 => k_asm); (case kK => first | exact rfl | assumption); (case kd => ktr_room); (case ku => ktr_units); (case hl => walk_at "NTm"); (case ha => (walk_at "NTn")); (case hb => (walk_at "NTn")); intro r9 tl9 h9 tk9 F9 N9 ho9; (have e9 : _ = _ := ho9); clear ho9; subst e9; (try dsimp only); (try k_fold)))
  k_with "NT call ref" => (k_here; (with_reducible show wpAny _ _ (PySem.call (Value.ref 380) _ _) _ _ _); k_dflt (refine' Does.use (c_asof _ _ _ _ _ _ _ _ _ _ ?hl ?ha ?hb ?hc ?hd ?he ?hf) ?k1 ?k2 ?k3 ?k4 ?k5 ?kK ?kd ?ku ?_; (case k1 => k_asm); (case k2 => k_asm); (case k3 => k_asm); (case k4 => k_asm); (case k5 => k_asm); (case kK => first | exact rfl | assumption); (case kd => ktr_room); (case ku => ktr_units); (case hl => walk_at "NTm"); (case ha => (walk_at "NTn")); (case hb => (walk_at "NTn")); (case hc => (walk_at "NTn")); (case hd => (walk_at "NTa")); (case he => (walk_at "NTa")); (case hf => (walk_at "NTo")); intro r9 tl9 h9 tk9 F9 N9 ho9; obtain ⟨z9, hz9, hk9⟩ := ho9; (try dsimp only); (try k_fold)))
  k_with "NT call ref" => (k_here; (with_reducible show wpAny _ _ (PySem.call (Value.ref 583) _ _) _ _ _); k_dflt (refine' Does.use (c_greatest _ _ _ _ _ _ _ _ ?ht ?hl ?ha ?hb ?hc ?hd ?he ?hf) ?k1 ?k2 ?k3 ?k4 ?k5 ?kK ?kd ?ku ?_; (case k1 => k_asm); (case k2 => k_asm); (case k3 => k_asm); (case k4 => k_asm); (case k5 => k_asm); (case kK => first | exact rfl | assumption); (case kd => ktr_room); (case ku => ktr_units); (case ht => walk_at "NTt"); (case hl => walk_at "NTm"); (case ha => (walk_at "NTn")); (case hb => (walk_at "NTn")); (case hc => (walk_at "NTa")); (case hd => (walk_at "NTa")); (case he => (walk_at "NTo")); (case hf => (walk_at "NTo")); intro r9 tl9 h9 tk9 F9 N9 ho9; obtain ⟨z9, hz9, hk9⟩ := ho9; (try dsimp only); (try k_fold)))
  k_with "NT call ref" => (k_here; (with_reducible show wpAny _ _ (PySem.call (Value.ref 590) _ _) _ _ _); k_dflt (refine' Does.use (c_least _ _ _ _ _ _ _ _ ?ht ?hl ?ha ?hb ?hc ?hd ?he ?hf) ?k1 ?k2 ?k3 ?k4 ?k5 ?kK ?kd ?ku ?_; (case k1 => k_asm); (case k2 => k_asm); (case k3 => k_asm); (case k4 => k_asm); (case k5 => k_asm); (case kK => first | exact rfl | assumption); (case kd => ktr_room); (case ku => ktr_units); (case ht => walk_at "NTt"); (case hl => walk_at "NTm"); (case ha => (walk_at "NTn")); (case hb => (walk_at "NTn")); (case hc => (walk_at "NTa")); (case hd => (walk_at "NTa")); (case he => (walk_at "NTo")); (case hf => (walk_at "NTo")); intro r9 tl9 h9 tk9 F9 N9 ho9; obtain ⟨z9, hz9, hk9⟩ := ho9; (try dsimp only); (try k_fold)))
  k_with "NT call ref" => (k_here; (with_reducible show wpAny _ _ (PySem.call (Value.ref 716) _ _) _ _ _); k_dflt (refine' Does.use (c_lfrac _ _ _ _ ?ha ?hb ?hc) ?k1 ?k2 ?k3 ?k4 ?k5 ?kK ?kd ?ku ?_; (case k1 => k_asm); (case k2 => k_asm); (case k3 => k_asm); (case k4 => k_asm); (case k5 => k_asm); (case kK => first | exact rfl | assumption); (case kd => ktr_room); (case ku => ktr_units); (case ha => (walk_at "NTn")); (case hb => (walk_at "NTa")); (case hc => (walk_at "NTo")); intro r9 tl9 h9 tk9 F9 N9 ho9; obtain ⟨a9, s9, q9, u9, w9, e9, hm9, hp9, hq9⟩ := ho9; subst e9; subst hp9; subst hq9; (try dsimp only); (try k_fold)))
  k_with "NT call ref" => (k_here; (with_reducible show wpAny _ _ (PySem.call (Value.ref 737) _ _) _ _ _); k_dflt (refine' Does.use (c_lless _ _ _ _ _ _ ?ha ?hb ?hc ?hd ?he) ?k1 ?k2 ?k3 ?k4 ?k5 ?kK ?kd ?ku ?_; (case k1 => k_asm); (case k2 => k_asm); (case k3 => k_asm); (case k4 => k_asm); (case k5 => k_asm); (case kK => first | exact rfl | assumption); (case kd => ktr_room); (case ku => ktr_units); (case ha => (walk_at "NTn")); (case hb => (walk_at "NTn")); (case hc => (walk_at "NTa")); (case hd => (walk_at "NTo")); (case he => (walk_at "NTo")); intro r9 tl9 h9 tk9 F9 N9 ho9; obtain ⟨u9, e9⟩ := ho9; subst e9; (try dsimp only); (try k_fold)))
  k_with "NT call ref" => (k_here; (with_reducible show wpAny _ _ (PySem.call (Value.ref 723) _ _) _ _ _); k_dflt (refine' Does.use (c_lshownR _ _ _ _ ?ha) ?k1 ?k2 ?k3 ?k4 ?k5 ?kK ?kd ?ku ?_; (case k1 => k_asm); (case k2 => k_asm); (case k3 => k_asm); (case k4 => k_asm); (case k5 => k_asm); (case kK => first | exact rfl | assumption); (case kd => ktr_room); (case ku => ktr_units); (case ha => (walk_at "NTn")); intro r9 tl9 h9 tk9 F9 N9 ho9; obtain ⟨a9, u9, v9, w9, e9, hm9⟩ := ho9; subst e9; (try dsimp only); (try k_fold)))
  k_with "NT call ref" => (k_here; (with_reducible show wpAny _ _ (PySem.call (Value.ref 723) _ _) _ _ _); k_dflt (refine' Does.use (c_lshownE _ _ _ ?ha ?hb) ?k1 ?k2 ?k3 ?k4 ?k5 ?kK ?kd ?ku ?_; (case k1 => k_asm); (case k2 => k_asm); (case k3 => k_asm); (case k4 => k_asm); (case k5 => k_asm); (case kK => first | exact rfl | assumption); (case kd => ktr_room); (case ku => ktr_units); (case ha => (walk_at "NTn")); (case hb => first | assumption | exact ex_isReal _ | rfl); intro r9 tl9 h9 tk9 F9 N9 ho9; obtain ⟨a9, u9, v9, w9, e9, hm9⟩ := ho9; subst e9; (try dsimp only); (try k_fold)))
  k_with "NT call ref" => (k_here; (with_reducible show wpAny _ _ (PySem.call (Value.ref 709) _ _) _ _ _); k_dflt (refine' Does.use (c_lreal _ _ _ _ _) ?k1 ?k2 ?k3 ?k4 ?k5 ?kK ?kd ?ku ?_; (case k1 => k_asm); (case k2 => k_asm); (case k3 => k_asm); (case k4 => k_asm); (case k5 => k_asm); (case kK => first | exact rfl | assumption); (case kd => ktr_room); (case ku => ktr_units);  intro r9 tl9 h9 tk9 F9 N9 ho9; obtain ⟨m9, e9, hm9, hn9⟩ := ho9; (try dsimp only); (try k_fold)))
  k_with "NT call ref" => (k_here; (with_reducible show wpAny _ _ (PySem.call (Value.ref 702) _ _) _ _ _); k_dflt (refine' Does.use (c_lnear _ _ _ _ _ _ _ ?ha ?hb ?hc ?hd ?he ?hf) ?k1 ?k2 ?k3 ?k4 ?k5 ?kK ?kd ?ku ?_; (case k1 => k_asm); (case k2 => k_asm); (case k3 => k_asm); (case k4 => k_asm); (case k5 => k_asm); (case kK => first | exact rfl | assumption); (case kd => ktr_room); (case ku => ktr_units); (case ha => (walk_at "NTa")); (case hb => (walk_at "NTa")); (case hc => (walk_at "NTa")); (case hd => (walk_at "NTa")); (case he => (walk_at "NTa")); (case hf => (walk_at "NTa")); intro r9 tl9 h9 tk9 F9 N9 ho9; obtain ⟨a9, m9, e9, u9, w9, q9, hm9, hs9⟩ := ho9; subst q9; (try dsimp only); (try k_fold)))
  k_with "NT call ref" => (k_here; (with_reducible show wpAny _ _ (PySem.call (Value.ref 744) _ _) _ _ _); k_dflt (refine' Does.use (c_lnext _ _ _ _ _ _ _ _ ?ha ?hb ?hc ?hd ?he ?hf ?hg ?hh ?hi ?hj) ?k1 ?k2 ?k3 ?k4 ?k5 ?kK ?kd ?ku ?_; (case k1 => k_asm); (case k2 => k_asm); (case k3 => k_asm); (case k4 => k_asm); (case k5 => k_asm); (case kK => first | exact rfl | assumption); (case kd => ktr_room); (case ku => ktr_units); (case ha => (walk_at "NTn")); (case hb => (walk_at "NTa")); (case hc => (walk_at "NTa")); (case hd => (walk_at "NTa")); (case he => (walk_at "NTa")); (case hf => (walk_at "NTa")); (case hg => (walk_at "NTa")); (case hh => (walk_at "NTa")); (case hi => (walk_at "NTa")); (case hj => (walk_at "NTa")); intro r9 tl9 h9 tk9 F9 N9 ho9; obtain ⟨a9, m9, e9, u9, w9, x9, q9, hm9, hs9⟩ := ho9; subst q9; (try dsimp only); (try k_fold)))
  k_with "NT call ref" => (k_here; (with_reducible show wpAny _ _ (PySem.call (Value.ref 730) _ _) _ _ _); k_dflt (refine' Does.use (c_lnumber _ _ _ _ _ ?ha ?hb) ?k1 ?k2 ?k3 ?k4 ?k5 ?kK ?kd ?ku ?_; (case k1 => k_asm); (case k2 => k_asm); (case k3 => k_asm); (case k4 => k_asm); (case k5 => k_asm); (case kK => first | exact rfl | assumption); (case kd => ktr_room); (case ku => ktr_units); (case ha => (walk_at "NTa")); (case hb => (walk_at "NTa")); intro r9 tl9 h9 tk9 F9 N9 ho9; obtain ⟨x9, hx9, hk9⟩ := ho9; (try dsimp only); (try k_fold)))
  have hB : 0 < x.fB := by omega
  have hun : ∀ m1 e1 m2 e2, NearSpec p x.fT x.fB m1 e1 → NearSpec p x.fT x.fB m2 e2 → m1 = m2 ∧ e1 = e2 := fun m1 e1 m2 e2 h1 h2 => near_uniq (by omega) hB hB h1 h2 rfl
  k_steps
  · obtain ⟨m, e, rfl⟩ := isReal_real (by assumption : x.isReal = true)
    have hv0 := hv
    have hb := ok_lt' ox
    obtain ⟨r1, r2, r3, r4⟩ := real_bnd hp2 ox
    cases hv
    k_steps
    · refine ret_all hret (by assumption) (by assumption) (by ktd_sub) (congrArg Value.bool ?_)
      simp only [Bool.and_eq_true, beq_iff_eq]
      exact ⟨⟨(next_uniq (by assumption) (by assumption)).1, (next_uniq (by assumption) (by assumption)).2⟩, ⟨(next_uniq (by assumption) (by assumption)).1, (next_uniq (by assumption) (by assumption)).2⟩⟩
    · exact ret_all hret (by assumption) (by assumption) (by ktd_sub) rfl
  · exact ret_all hret (by assumption) (by assumption) (by ktd_sub) rfl
  · exfalso
    rename (_ && _) = false => hf
    rw [Bool.and_eq_false_iff] at hf
    simp only [beq_eq_false_iff_ne, ne_eq] at hf
    rcases hf with hf | hf
    · exact hf (hun _ _ _ _ (by assumption) (by assumption)).1
    · exact hf (hun _ _ _ _ (by assumption) (by assumption)).2
theorem laid_NTW15_1 : True := by
  k_with "NT call ref" => (k_here; (with_reducible show wpAny _ _ (PySem.call (Value.ref 751) _ _) _ _ _); k_dflt (refine' Does.use (c_lsingle _ _ _ _ _ ?ha ?hb ?hc ?hd) ?k1 ?k2 ?k3 ?k4 ?k5 ?kK ?kd ?ku ?_; (case k1 => k_asm); (case k2 => k_asm); (case k3 => k_asm); (case k4 => k_asm); (case k5 => k_asm); (case kK => first | exact rfl | assumption); (case kd => ktr_room); (case ku => ktr_units); (case ha => (walk_at "NTn")); (case hb => (walk_at "NTa")); (case hc => (walk_at "NTa")); (case hd => (walk_at "NTo")); intro r9 tl9 h9 tk9 F9 N9 ho9; (have e9 : _ = _ := ho9); clear ho9; subst e9; (try dsimp only); (try k_fold)))
  trivial
end
section
section
variable {M : Model} {A : Around} {E : Value → Shared → Prop} {s : Shared} {h₀ : Heap} {L a : Addr} {m : Str → Option Value} {cn : Str} {cs : Scope} {ccd : Value} {cl : List (Str × Addr)} {all news : List (Addr × Obj)} {x : Str} {v : Value} {v₀ : Option Value} {c : Addr} {o : Obj} {Q : Unit → Shared → Prop}
theorem store_cell (F : Fr h₀ L s.heap m) (N : News h₀ L s.heap all) (hm : (c, o) ∈ all) (hs : ∀ p ∈ news, p ∈ all) (hl : ∀ p ∈ news, p.1 < L) (hL : L < c) (hc : cl.lookup x = some c) (hd : o.data = .cell v₀)
    (h : ∀ h' o', Fr h₀ L h' m → News h₀ L h' ((c, o') :: news) → o'.data = .cell (some v) → Q () { s with heap := h' })
    (hk : cs.kind = .function := by rfl) (hx : (envX cn cs L a ccd cl).kindOf x = some .cell := by rfl) : wpAny M A (storeName (envX cn cs L a ccd cl) x v) Q E s := by
  have N2 : News h₀ L s.heap ((c, o) :: news) := fun p hp => by
    rcases List.mem_cons.mp hp with rfl | hp
    · exact N _ hm
    · exact N _ (hs p hp)
  exact storeX_C F N2 hc (.head fun p hp => Nat.ne_of_lt (Nat.lt_trans (hl p hp) hL)) hd h hk hx
end
theorem laid_NTW16_1 : True := by
  k_with "NT storeName" => (k_here; k_dflt (refine' store_cell ?F ?N ?m ?s ?l ?lt ?c ?d ?_ ?a ?b; (case a => rfl); (case b => rfl); (case F => k_asm); (case N => k_asm); (case c => rfl); (case m => k_mem); (case d => k_asm); (case lt => exact Nat.lt_succ_self _); (case l => assumption); (case s => ktd_sub)); intro h' o' F' N' d'; (try dsimp only))
  trivial
/-- what _law_shown hands back of a number -/
def ShownN (nw : List (Addr × Obj)) (r : Value) (z : Num) : Prop := ∃ a u0 u1 u2, r = .ref a ∧ (a, lisOf [.str z.word u0, .int z.p u1, .int z.q u2]) ∈ nw
theorem ShownN.mono {nw nw' : List (Addr × Obj)} {r : Value} {z : Num} (h : ShownN nw r z) (hs : ∀ p ∈ nw, p ∈ nw') : ShownN nw' r z := let ⟨a, u0, u1, u2, e, hm⟩ := h; ⟨a, u0, u1, u2, e, hs _ hm⟩
/-- an inexact number nearest to z -/
def NearOk (p : Int) (nw : List (Addr × Obj)) (r : Value) (z : Num) : Prop := ∃ z', NumIn nw r z' ∧ PickOk p z true z'
theorem NearOk.mono {p : Int} {nw nw' : List (Addr × Obj)} {r : Value} {z : Num} (h : NearOk p nw r z) (hs : ∀ p ∈ nw, p ∈ nw') : NearOk p nw' r z := let ⟨z', h1, h2⟩ := h; ⟨z', h1.mono hs, h2⟩
theorem pick_same {p : Int} {b : Bool} {x y x' y' : Num} (hp : 2 ≤ p) (ox : NumOk p x) (oy : NumOk p y) (h : less x y = 0) (hb : b = false → x.isReal = false ∧ y.isReal = false) (hx : PickOk p x b x') (hy : PickOk p y b y') : x'.word = y'.word ∧ x'.p = y'.p ∧ x'.q = y'.q := by
  cases b with
  | true =>
    obtain ⟨m1, e1, rfl, n1, _⟩ := hx.1 rfl
    obtain ⟨m2, e2, rfl, n2, _⟩ := hy.1 rfl
    obtain ⟨rfl, rfl⟩ := near_uniq (by omega) (fB_pos ox) (fB_pos oy) n1 n2 (less_eq0.mp h)
    exact ⟨rfl, rfl, rfl⟩
  | false =>
    obtain ⟨rx, ry⟩ := hb rfl
    rw [hx.2 rfl, hy.2 rfl]
    obtain ⟨q1, q2⟩ := (same_exacts ox oy rx ry).2 h
    have px : x.p = x.top ∧ x.q = x.bot := by cases x with | real m e => exact Bool.noConfusion rx | whole n => exact ⟨rfl, rfl⟩ | ratio t b => exact ⟨rfl, rfl⟩
    have py : y.p = y.top ∧ y.q = y.bot := by cases y with | real m e => exact Bool.noConfusion ry | whole n => exact ⟨rfl, rfl⟩ | ratio t b => exact ⟨rfl, rfl⟩
    exact ⟨by simp only [Num.word, rx, ry], by rw [px.1, py.1, q1], by rw [px.2, py.2, q2]⟩
theorem word_or (x : Num) : x.word = Str.ofString "real" ∨ x.word = Str.ofString "exact" := by
  unfold Num.word
  split
  · exact .inl rfl
  · exact .inr rfl
theorem shaped_two {w1 w2 : Str} {i1 i2 j1 j2 : Int} (h1 : w1 = Str.ofString "real" ∨ w1 = Str.ofString "exact") (h2 : w2 = Str.ofString "real" ∨ w2 = Str.ofString "exact") : SeqAt.shaped (.list [.list [.str w1, .int i1, .int j1], .list [.str w2, .int i2, .int j2]]) = true := by
  have s1 : PyData.strOk (Str.ofString "real") = true := by decide +kernel
  have s2 : PyData.strOk (Str.ofString "exact") = true := by decide +kernel
  rcases h1 with rfl | rfl <;> rcases h2 with rfl | rfl <;> simp [SeqAt.shaped, PyData.canLay0, PyData.canLayAll0, PyData.depth, PyData.depthAll, s1, s2]
theorem less_refl (x : Num) : less x x = 0 := by rw [less_eq0]
theorem news_cut {h₀ h : Heap} {L D b1 b2 f a1 a2 : Addr} {oD o1 o2 oF p1 p2 : Obj} {rest keep t1 t2 : Led} (N : News h₀ L h ((D, oD) :: (b1, o1) :: (b2, o2) :: (f, oF) :: rest)) (m1 : (a1, p1) ∈ t1) (s1 : ∀ p ∈ t1, p ∈ rest) (m2 : (a2, p2) ∈ t2) (s2 : ∀ p ∈ t2, p ∈ rest) (hs : ∀ p ∈ keep, p ∈ rest) :
    News h₀ L h ((D, oD) :: (b1, o1) :: (b2, o2) :: (f, oF) :: (a1, p1) :: (a2, p2) :: keep) := fun p hp => by
  refine N p ?_
  rcases List.mem_cons.mp hp with rfl | hp
  · exact List.mem_cons_self
  refine List.mem_cons_of_mem _ ?_
  rcases List.mem_cons.mp hp with rfl | hp
  · exact List.mem_cons_self
  refine List.mem_cons_of_mem _ ?_
  rcases List.mem_cons.mp hp with rfl | hp
  · exact List.mem_cons_self
  refine List.mem_cons_of_mem _ ?_
  rcases List.mem_cons.mp hp with rfl | hp
  · exact List.mem_cons_self
  refine List.mem_cons_of_mem _ ?_
  rcases List.mem_cons.mp hp with rfl | hp
  · exact s1 _ m1
  rcases List.mem_cons.mp hp with rfl | hp
  · exact s2 _ m2
  exact hs p hp
def Two (p : Int) (x y : Num) (tl : List (Addr × Obj)) (r : Value) : Prop := ∃ l v1 v2 z1 z2, r = .ref l ∧ (l, lisOf [v1, v2]) ∈ tl ∧ NumIn tl v1 z1 ∧ NumIn tl v2 z2 ∧ NumOk p z1 ∧ NumOk p z2 ∧ z1 = (if less y x < 0 then y else x) ∧ less (if 0 < less y x then y else x) z2 = 0 ∧ (z2 = x ∨ z2 = y)
/-- the ends, made inexact where one was -/
def Two2 (p : Int) (b : Bool) (z1 z2 : Num) (tl : List (Addr × Obj)) (r : Value) : Prop := ∃ l k v1 v2 z1' z2', r = .ref l ∧ (l, lisK [v1, v2] k) ∈ tl ∧ NumIn tl v1 z1' ∧ NumIn tl v2 z2' ∧ PickOk p z1 b z1' ∧ PickOk p z2 b z2'
local macro_rules | `(tactic| k_mem) => `(tactic| (rename ∀ p ∈ _, p ∈ _ => hs9; refine hs9 _ ?_; k_mem))
theorem laid_NTW16_2 : True := by
  k_with "NT binaryOp Mult int int" => refine NT.Halt.out ?_
  trivial
theorem laid_NTW16_3 : True := by
  k_with "NT exec If" => refine NT.Halt.out ?_
  trivial
theorem laid_NTW16_4 : True := by
  k_with "NT SrcOf" => refine NT.Halt.out ?_
  trivial
theorem laid_NTW16_5 : True := by
  k_with "NT TurnEnd" => refine NT.Halt.out ?_
  trivial
theorem laid_NTW16_6 : True := by
  k_with "NT eval ListComp" => (k_here; k_dflt (refine NT.comp_eval (by k_asm) (by with_unfolding_all rfl) (by decide) (by rfl) (by decide) (by rfl) ?_))
  trivial
theorem laid_NTW16_7 : True := by
  k_with "NT exec Assign cons ListComp" => (k_here; k_dflt (refine NT.comp_assign (by k_asm) (by rfl) (by with_unfolding_all rfl) (by with_unfolding_all rfl) (by decide) (by rfl) (by decide) (by rfl) (by rfl) (by rfl) ?_))
  trivial
theorem laid_NTW16_8 : True := by
  k_with "NT TestPost" => refine NT.Halt.out ?_
  trivial
theorem laid_NTW16_9 : True := by
  k_with "NT CutPost" => refine NT.Halt.out ?_
  trivial
theorem laid_NTW16_10 : True := by
  k_with "NT exec Assign cons BoolOp" => refine NT.Halt.out ?_
  trivial
theorem laid_NTW16_11 : True := by
  k_with "NT exec Assign cons IfExp" => refine NT.Halt.out ?_
  trivial
theorem laid_NTW16_12 : True := by
  k_with "NT call ref" => (k_here; (with_reducible show wpAny _ _ (PySem.call (Value.ref 723) _ _) _ _ _); k_dflt (refine' Does.use (c_lshown _ _ _ ?ha) ?k1 ?k2 ?k3 ?k4 ?k5 ?kK ?kd ?ku ?_; (case k1 => k_asm); (case k2 => k_asm); (case k3 => k_asm); (case k4 => k_asm); (case k5 => k_asm); (case kK => first | exact rfl | assumption); (case kd => ktr_room); (case ku => ktr_units); (case ha => (walk_at "NTn")); intro r9 tl9 h9 tk9 F9 N9 ho9; obtain ⟨a9, u9, v9, w9, e9, hm9⟩ := ho9; subst e9; (try dsimp only); (try k_fold)))
  trivial
set_option maxRecDepth 100000 in
set_option maxHeartbeats 16000000 in
theorem c_lpair {w : World} {mean mg mb} (news : List (Addr × Obj)) (p : Int) (tw : Addr) (v v' : Value) (x y : Num) (ht : TowerIn news tw p) (hv : NumIn news v x) (hv' : NumIn news v' y) (hp1 : 2 ≤ p) (hp2 : p ≤ 8) (ox : NumOk p x) (oy : NumOk p y) :
    Does w mean mg mb 756 60 [.ref tw, v, v'] news (fun _ r => r = .bool true) := by
  have ht0 := ht
  obtain ⟨d, h1, t1, u1, hd1, hd2⟩ := ht
  unfold Does
  k_fill
  intro dp un gd cn cs aF ccd cl outer A₀ base h₀ L mF s Q E B F X N T hK9 hD9 hU9 hret
  refine wpAny_call ?_
  k_dflt (refine' code_defC (binds := [(Str.ofString "tower", .ref tw), (Str.ofString "one", v), (Str.ofString "other", v')]) ?k1 ?k2 ?k3 ?k4 ?k5 ?kA ?kF ?kK ?k6 ?k7 ?k8 ?k9 ?kB ?kD ?_ ?c2 ?c3 ?c4; (case kA => exact rfl); (case kF => exact rfl); (case kK => assumption); (case k1 => k_asm); (case k2 => k_asm); (case k3 => k_asm); (case k4 => k_asm); (case k5 => k_asm); (case k6 => k_is); (case k7 => k_is); (case k8 => ktr_room); (case k9 => exact BindsTo.of_eq rfl); (case kB => exact rfl); (case kD => decide +kernel); (case c2 => exact rfl); (case c3 => exact rfl); (case c4 => exact rfl); k_whole; intro g' L' h' tk' cells' FG' F' N' Y' B' X' T' l1; k_cells Y'; (try simp only [List.cons_append, List.nil_append] at N'); (try dsimp only); (try k_fold))

  have ha := less_anti x y
  k_with_none
  k_with "NT subscriptTail Name Constant ref int" => (k_here; (with_reducible show wpAny _ _ (subscriptTail _ _ (Value.ref _) (Value.int _ _)) _ _ _); (with_unfolding_all refine' item_litK ?k1 ?k2 ?k3 ?k4 ?_ ?k6; (case k1 => exact News.isList (by k_asm) (by k_mem)); (case k2 => decide); (case k3 => decide); (case k4 => rfl); (case k6 => with_unfolding_all rfl); k_whole))
  k_with "NT call ref" => (k_here; (refine wpAny_call ?_); k_dflt (refine' code_def ?k1 ?k2 ?k3 ?k4 ?k5 ?kA ?kF ?kK ?k6 ?k7 ?k8 ?k9 ?kB ?_ ?c2 ?c3 ?c4 ?c5; (case kA => exact rfl); (case kF => exact rfl); (case kK => first | exact rfl | assumption); (case k1 => k_asm); (case k2 => k_asm); (case k3 => k_asm); (case k4 => k_asm); (case k5 => k_asm); (case k6 => k_is); (case k7 => k_is); (case k8 => ktr_room); (case k9 => exact BindsTo.of_eq rfl); (case c5 => decide); (case kB => exact locs rfl); (case c2 => exact rfl); (case c3 => exact rfl); (case c4 => exact rfl); k_whole; intro g' L' h' FG' F' N' B' X' T'; (try dsimp only); (try k_fold)))
  k_with "NT binaryOp Add ref ref" => (k_here; (with_reducible show wpAny _ _ (binaryOp _ (Value.ref _) (Value.ref _)) _ _ _); k_dflt (refine' kmk_add_lit ?F ?N ?a ?b ?e ?_ ?z; (case F => k_asm); (case N => k_asm); (case a => kmk_list); (case b => kmk_list); (case e => kl_lit); (case z => kl_room)); intro D' h' F' N' l1; (try dsimp only))
  k_with "NT compareOp NotEq ref ref" => (k_here; (with_reducible show wpAny _ _ (compareOp CmpOp.NotEq (Value.ref _) (Value.ref _)) _ _ _); k_dflt ((refine ne_dataH (by ke_read) (by ke_read) (by ke_shaped) (by ke_shaped) (by ktr_units) ?_); ke_norm))
  k_with "NT compareOp Eq ref ref" => (k_here; (with_reducible show wpAny _ _ (compareOp CmpOp.Eq (Value.ref _) (Value.ref _)) _ _ _); k_dflt ((refine eq_dataH (by ke_read) (by ke_read) (by ke_shaped) (by ke_shaped) (by ktr_units) ?_); ke_norm))
  k_with "NT exec For Name Name cons nil" => (k_here; (rename Fr _ _ _ _ => lF'); (with_unfolding_all refine' For_invVF lF' ?k1 ?k2 ?_; (case k1 => exact rfl); (case k2 => exact rfl); k_whole))
  k_with "NT exec For Name List cons nil" => (k_here; (rename Fr _ _ _ _ => lF'); (with_unfolding_all refine' For_invVF lF' ?k1 ?k2 ?_; (case k1 => exact rfl); (case k2 => exact rfl); k_whole))
  k_with "NT exec For Name Subscript cons nil" => (k_here; (rename Fr _ _ _ _ => lF'); (with_unfolding_all refine' For_invVF lF' ?k1 ?k2 ?_; (case k1 => exact rfl); (case k2 => exact rfl); k_whole))
  k_with "NT pyIter ref" => (k_here; (with_unfolding_all refine' iter_listUnr ?k0 ?k1 ?k2 ?k3 ?k4 ?k5 ?_; (case k0 => exact rfl); (case k1 => k_asm); (case k2 => k_asm); (case k3 => k_mem); (case k4 => exact rfl); (case k5 => exact rfl); k_whole); intro i9 l9)
  k_with "NT UnrEnd" => (refine UnrEnd.intro (by assumption) (by assumption) _ ?ks (offOf (by assumption)) ⟨?km, ?_⟩; (case ks => ktd_sub); (case km => k_mem))
  k_with "NT ite" => (k_openite; k_dflt (first | (refine ite_pos ?kc ?_; (case kc => first | omega | (simp only [decide_eq_true_eq, decide_eq_false_iff_not, beq_iff_eq, bne_iff_ne, ne_eq, Bool.not_eq_true', Bool.not_eq_false', Bool.and_eq_true, Bool.and_eq_false_iff, Bool.or_eq_true, Bool.not_not]; done) | ((simp only [decide_eq_true_eq, decide_eq_false_iff_not, beq_iff_eq, bne_iff_ne, ne_eq, Bool.not_eq_true', Bool.not_eq_false', Bool.and_eq_true, Bool.and_eq_false_iff, Bool.or_eq_true, Bool.not_not]); omega) | (simp; done))) | (refine ite_neg ?kc ?_; (case kc => first | omega | (simp only [decide_eq_true_eq, decide_eq_false_iff_not, beq_iff_eq, bne_iff_ne, ne_eq, Bool.not_eq_true', Bool.not_eq_false', Bool.and_eq_true, Bool.and_eq_false_iff, Bool.or_eq_true, Bool.not_not]; done) | ((simp only [decide_eq_true_eq, decide_eq_false_iff_not, beq_iff_eq, bne_iff_ne, ne_eq, Bool.not_eq_true', Bool.not_eq_false', Bool.and_eq_true, Bool.and_eq_false_iff, Bool.or_eq_true, Bool.not_not]); omega) | (simp; done)))))
  k_with "NT NTn" => first | assumption | exact NumIn.whole | exact NumIn.mono (by assumption) (by ktd_sub) | exact NumIn.real (by k_mem) (by k_mem) | exact NumIn.ratio (by k_mem) (by k_mem)
  k_with "NT NTt" => first | assumption | exact ⟨_, _, _, _, by k_mem, by k_mem⟩
  k_with "NT NTm" => first | assumption | ktr_member | k_mem
  k_with "NT NTo" => assumption
  k_with "NT NTa" => first | assumption | omega | decide
  k_with "NT binaryOp LShift int int" => (refine lshift_int_small ?kb1 ?kb2 ?kb3 ?_; (case kb1 => walk_at "NTa"); (case kb2 => walk_at "NTa"); (case kb3 => walk_at "NTa"))
  k_with "NT binaryOp Pow int int" => (refine pow_int_small ?kb1 ?kb2 ?kb3 ?_; (case kb1 => walk_at "NTa"); (case kb2 => walk_at "NTa"); (case kb3 => walk_at "NTa"))
  k_with "NT binaryOp RShift int int" => (refine rshift_int ?kb1 ?_; (case kb1 => walk_at "NTa"))
  k_with "NT binaryOp FloorDiv int int" => (refine floordiv_int ?kb1 ?_ (Or.inl (PyProof.noPylong_small ?kb2)); (case kb1 => walk_at "NTa"); (case kb2 => walk_at "NTa"))
  k_with "NT binaryOp Mult int int" => (refine mul_int ?_ ?kb1; rotate_left; (case kb1 => first | exact mulSignOk _ _ | exact IntMulOk.of_left (intBits_le_64 (by walk_at "NTa") (by walk_at "NTa")) | exact IntMulOk.of_right (intBits_le_64 (by walk_at "NTa") (by walk_at "NTa"))))
  k_with "NT call ref" => (k_here; (with_reducible show wpAny _ _ (PySem.call (Value.ref 695) _ _) _ _ _); k_dflt (refine' Does.use (c_low _ _ _ _ _ ?ha ?hb) ?k1 ?k2 ?k3 ?k4 ?k5 ?kK ?kd ?ku ?_; (case k1 => k_asm); (case k2 => k_asm); (case k3 => k_asm); (case k4 => k_asm); (case k5 => k_asm); (case kK => first | exact rfl | assumption); (case kd => ktr_room); (case ku => ktr_units); (case ha => omega); (case hb => omega); intro r9 tl9 h9 tk9 F9 N9 ho9; obtain ⟨a9, p9, q9, u9, v9, e9, hm9, hp9, hq9⟩ := ho9; subst e9; subst hp9; subst hq9; (try dsimp only); (try k_fold)))
  k_with "NT call ref" => (k_here; (with_reducible show wpAny _ _ (PySem.call (Value.ref 96) _ _) _ _ _); k_dflt (refine' Does.use (c_Real _ _ _ _ _) ?k1 ?k2 ?k3 ?k4 ?k5 ?kK ?kd ?ku ?_; (case k1 => k_asm); (case k2 => k_asm); (case k3 => k_asm); (case k4 => k_asm); (case k5 => k_asm); (case kK => first | exact rfl | assumption); (case kd => ktr_room); (case ku => ktr_units);  intro r9 tl9 h9 tk9 F9 N9 ho9; (try dsimp only); (try k_fold)))
  k_with "NT call ref" => (k_here; (with_reducible show wpAny _ _ (PySem.call (Value.ref 264) _ _) _ _ _); k_dflt (refine' Does.use (c_Ratio _ _ _ _ _) ?k1 ?k2 ?k3 ?k4 ?k5 ?kK ?kd ?ku ?_; (case k1 => k_asm); (case k2 => k_asm); (case k3 => k_asm); (case k4 => k_asm); (case k5 => k_asm); (case kK => first | exact rfl | assumption); (case kd => ktr_room); (case ku => ktr_units);  intro r9 tl9 h9 tk9 F9 N9 ho9; (try dsimp only); (try k_fold)))
  k_with "NT call ref" => (k_here; (with_reducible show wpAny _ _ (PySem.call (Value.ref 107) _ _) _ _ _); k_dflt (refine' Does.use (c_size _ _ _) ?k1 ?k2 ?k3 ?k4 ?k5 ?kK ?kd ?ku ?_; (case k1 => k_asm); (case k2 => k_asm); (case k3 => k_asm); (case k4 => k_asm); (case k5 => k_asm); (case kK => first | exact rfl | assumption); (case kd => ktr_room); (case ku => ktr_units);  intro r9 tl9 h9 tk9 F9 N9 ho9; obtain ⟨u9, e9⟩ := ho9; subst e9; (try dsimp only); (try k_fold)))
  k_with "NT call ref" => (k_here; (with_reducible show wpAny _ _ (PySem.call (Value.ref 114) _ _) _ _ _); k_dflt (refine' Does.use (c_sow _ _ _) ?k1 ?k2 ?k3 ?k4 ?k5 ?kK ?kd ?ku ?_; (case k1 => k_asm); (case k2 => k_asm); (case k3 => k_asm); (case k4 => k_asm); (case k5 => k_asm); (case kK => first | exact rfl | assumption); (case kd => ktr_room); (case ku => ktr_units);  intro r9 tl9 h9 tk9 F9 N9 ho9; obtain ⟨u9, e9⟩ := ho9; subst e9; (try dsimp only); (try k_fold)))
  k_with "NT call ref" => (k_here; (with_reducible show wpAny _ _ (PySem.call (Value.ref 121) _ _) _ _ _); k_dflt (refine' Does.use (c_zeros _ _ _ _ _ ?ha) ?k1 ?k2 ?k3 ?k4 ?k5 ?kK ?kd ?ku ?_; (case k1 => k_asm); (case k2 => k_asm); (case k3 => k_asm); (case k4 => k_asm); (case k5 => k_asm); (case kK => first | exact rfl | assumption); (case kd => ktr_room); (case ku => ktr_units); (case ha => assumption); intro r9 tl9 h9 tk9 F9 N9 ho9; obtain ⟨u9, e9⟩ := ho9; subst e9; (try dsimp only); (try k_fold)))
  k_with "NT call ref" => (k_here; (with_reducible show wpAny _ _ (PySem.call (Value.ref 128) _ _) _ _ _); k_dflt (refine' Does.use (c_lean _ _ _ _ _ ?ha ?ha2 ?hb ?hc) ?k1 ?k2 ?k3 ?k4 ?k5 ?kK ?kd ?ku ?_; (case k1 => k_asm); (case k2 => k_asm); (case k3 => k_asm); (case k4 => k_asm); (case k5 => k_asm); (case kK => first | exact rfl | assumption); (case kd => ktr_room); (case ku => ktr_units); (case ha => first | (walk_at "NTa") | exact (signMul (by omega) (by omega)).1); (case ha2 => first | (walk_at "NTa") | exact (signMul (by omega) (by omega)).2); (case hb => (walk_at "NTa")); (case hc => (walk_at "NTa")); intro r9 tl9 h9 tk9 F9 N9 ho9; obtain ⟨m9, e9, hm9, hn9⟩ := ho9; (try dsimp only); (try k_fold)))
  k_with "NT call ref" => (k_here; (with_reducible show wpAny _ _ (PySem.call (Value.ref 135) _ _) _ _ _); k_dflt (refine' Does.use (c_nshift _ _ _ _ _ ?ha ?hb ?hc) ?k1 ?k2 ?k3 ?k4 ?k5 ?kK ?kd ?ku ?_; (case k1 => k_asm); (case k2 => k_asm); (case k3 => k_asm); (case k4 => k_asm); (case k5 => k_asm); (case kK => first | exact rfl | assumption); (case kd => ktr_room); (case ku => ktr_units); (case ha => (walk_at "NTa")); (case hb => (walk_at "NTa")); (case hc => (walk_at "NTa")); intro r9 tl9 h9 tk9 F9 N9 ho9; obtain ⟨R9, u9, e9, hR9, hlo9, hhi9⟩ := ho9; subst e9; (try dsimp only); (try k_fold)))
  k_with "NT call ref" => (k_here; (with_reducible show wpAny _ _ (PySem.call (Value.ref 149) _ _) _ _ _); k_dflt (refine' Does.use (c_sticky _ _ _ _ ?ha ?hb) ?k1 ?k2 ?k3 ?k4 ?k5 ?kK ?kd ?ku ?_; (case k1 => k_asm); (case k2 => k_asm); (case k3 => k_asm); (case k4 => k_asm); (case k5 => k_asm); (case kK => first | exact rfl | assumption); (case kd => ktr_room); (case ku => ktr_units); (case ha => (walk_at "NTa")); (case hb => (walk_at "NTa")); intro r9 tl9 h9 tk9 F9 N9 ho9; obtain ⟨u9, e9⟩ := ho9; subst e9; (try dsimp only); (try k_fold)))
  k_with "NT call ref" => (k_here; (with_reducible show wpAny _ _ (PySem.call (Value.ref 142) _ _) _ _ _); k_dflt (refine' Does.use (c_sround _ _ _ _ _ _ _ ?ha ?hb ?hc ?hd ?he ?hf) ?k1 ?k2 ?k3 ?k4 ?k5 ?kK ?kd ?ku ?_; (case k1 => k_asm); (case k2 => k_asm); (case k3 => k_asm); (case k4 => k_asm); (case k5 => k_asm); (case kK => first | exact rfl | assumption); (case kd => ktr_room); (case ku => ktr_units); (case ha => (walk_at "NTa")); (case hb => (walk_at "NTa")); (case hc => (walk_at "NTa")); (case hd => (walk_at "NTa")); (case he => (walk_at "NTa")); (case hf => (walk_at "NTa")); intro r9 tl9 h9 tk9 F9 N9 ho9; obtain ⟨R9, m9, e9, hm9, hR9, hn9⟩ := ho9; (try dsimp only); (try k_fold)))
  k_with "NT call ref" => (k_here; (with_reducible show wpAny _ _ (PySem.call (Value.ref 156) _ _) _ _ _); k_dflt (refine' Does.use (c_rounded _ _ _ _ _ _ _ ?ha ?hb ?hc ?hd ?he ?hf) ?k1 ?k2 ?k3 ?k4 ?k5 ?kK ?kd ?ku ?_; (case k1 => k_asm); (case k2 => k_asm); (case k3 => k_asm); (case k4 => k_asm); (case k5 => k_asm); (case kK => first | exact rfl | assumption); (case kd => ktr_room); (case ku => ktr_units); (case ha => (walk_at "NTa")); (case hb => (walk_at "NTa")); (case hc => (walk_at "NTa")); (case hd => (walk_at "NTa")); (case he => (walk_at "NTa")); (case hf => (walk_at "NTa")); intro r9 tl9 h9 tk9 F9 N9 ho9; obtain ⟨m9, e9, hm9, hs9⟩ := ho9; (try dsimp only); (try k_fold)))
  k_with "NT call ref" => (k_here; (with_reducible show wpAny _ _ (PySem.call (Value.ref 163) _ _) _ _ _); k_dflt (refine' Does.use (c_exparts _ _ _ _ ?ha ?hb ?hc ?hd ?he) ?k1 ?k2 ?k3 ?k4 ?k5 ?kK ?kd ?ku ?_; (case k1 => k_asm); (case k2 => k_asm); (case k3 => k_asm); (case k4 => k_asm); (case k5 => k_asm); (case kK => first | exact rfl | assumption); (case kd => ktr_room); (case ku => ktr_units); (case ha => (walk_at "NTn")); (case hb => (walk_at "NTa")); (case hc => (walk_at "NTa")); (case hd => (walk_at "NTa")); (case he => (walk_at "NTa")); intro r9 tl9 h9 tk9 F9 N9 ho9; obtain ⟨a9, p9, q9, u9, v9, e9, hm9, hp9, hq9⟩ := ho9; subst e9; subst hp9; subst hq9; (try dsimp only); (try k_fold)))
  k_with "NT call ref" => (k_here; (with_reducible show wpAny _ _ (PySem.call (Value.ref 170) _ _) _ _ _); k_dflt (refine' Does.use (c_place _ _ _ _ ?ha) ?k1 ?k2 ?k3 ?k4 ?k5 ?kK ?kd ?ku ?_; (case k1 => k_asm); (case k2 => k_asm); (case k3 => k_asm); (case k4 => k_asm); (case k5 => k_asm); (case kK => first | exact rfl | assumption); (case kd => ktr_room); (case ku => ktr_units); (case ha => (walk_at "NTn")); intro r9 tl9 h9 tk9 F9 N9 ho9; obtain ⟨u9, e9⟩ := ho9; subst e9; (try dsimp only); (try k_fold)))
  k_with "NT call ref" => (k_here; (with_reducible show wpAny _ _ (PySem.call (Value.ref 177) _ _) _ _ _); k_dflt (refine' Does.use (c_signof _ _ _ _ ?ha) ?k1 ?k2 ?k3 ?k4 ?k5 ?kK ?kd ?ku ?_; (case k1 => k_asm); (case k2 => k_asm); (case k3 => k_asm); (case k4 => k_asm); (case k5 => k_asm); (case kK => first | exact rfl | assumption); (case kd => ktr_room); (case ku => ktr_units); (case ha => (walk_at "NTn")); intro r9 tl9 h9 tk9 F9 N9 ho9; obtain ⟨u9, e9⟩ := ho9; subst e9; (try dsimp only); (try k_fold)))
  k_with "NT call ref" => (k_here; (with_reducible show wpAny _ _ (PySem.call (Value.ref 184) _ _) _ _ _); k_dflt (refine' Does.use (c_negative _ _ _ _ ?ha) ?k1 ?k2 ?k3 ?k4 ?k5 ?kK ?kd ?ku ?_; (case k1 => k_asm); (case k2 => k_asm); (case k3 => k_asm); (case k4 => k_asm); (case k5 => k_asm); (case kK => first | exact rfl | assumption); (case kd => ktr_room); (case ku => ktr_units); (case ha => (walk_at "NTn")); intro r9 tl9 h9 tk9 F9 N9 ho9; (try dsimp only); (try k_fold)))
  k_with "NT call ref" => (k_here; (with_reducible show wpAny _ _ (PySem.call (Value.ref 191) _ _) _ _ _); k_dflt (refine' Does.use (c_magnitude _ _ _ _ ?ha) ?k1 ?k2 ?k3 ?k4 ?k5 ?kK ?kd ?ku ?_; (case k1 => k_asm); (case k2 => k_asm); (case k3 => k_asm); (case k4 => k_asm); (case k5 => k_asm); (case kK => first | exact rfl | assumption); (case kd => ktr_room); (case ku => ktr_units); (case ha => (walk_at "NTn")); intro r9 tl9 h9 tk9 F9 N9 ho9; (try dsimp only); (try k_fold)))
  k_with "NT call ref" => (k_here; (with_reducible show wpAny _ _ (PySem.call (Value.ref 198) _ _) _ _ _); k_dflt (refine' Does.use (c_same _ _ _ _ _ _ _ ?ha ?hb) ?k1 ?k2 ?k3 ?k4 ?k5 ?kK ?kd ?ku ?_; (case k1 => k_asm); (case k2 => k_asm); (case k3 => k_asm); (case k4 => k_asm); (case k5 => k_asm); (case kK => first | exact rfl | assumption); (case kd => ktr_room); (case ku => ktr_units); (case ha => (walk_at "NTn")); (case hb => (walk_at "NTn")); intro r9 tl9 h9 tk9 F9 N9 ho9; (have e9 : _ = _ := ho9); clear ho9; subst e9; (try dsimp only); (try k_fold)))
  k_with "NT call ref" => (k_here; (with_reducible show wpAny _ _ (PySem.call (Value.ref 205) _ _) _ _ _); k_dflt (refine' Does.use (c_cmpmag _ _ _ _ _ _ _ ?ha ?hb ?hc ?hd ?he ?hf ?hg ?hh ?hi ?hj) ?k1 ?k2 ?k3 ?k4 ?k5 ?kK ?kd ?ku ?_; (case k1 => k_asm); (case k2 => k_asm); (case k3 => k_asm); (case k4 => k_asm); (case k5 => k_asm); (case kK => first | exact rfl | assumption); (case kd => ktr_room); (case ku => ktr_units); (case ha => (walk_at "NTn")); (case hb => (walk_at "NTn")); (case hc => (walk_at "NTa")); (case hd => (walk_at "NTa")); (case he => (walk_at "NTa")); (case hf => (walk_at "NTa")); (case hg => (walk_at "NTa")); (case hh => (walk_at "NTa")); (case hi => (walk_at "NTa")); (case hj => (walk_at "NTa")); intro r9 tl9 h9 tk9 F9 N9 ho9; obtain ⟨u9, e9⟩ := ho9; subst e9; (try dsimp only); (try k_fold)))
  k_with "NT call ref" => (k_here; (with_reducible show wpAny _ _ (PySem.call (Value.ref 212) _ _) _ _ _); k_dflt (refine' Does.use (c_cmpreals _ _ _ _ _ _ _ ?ha ?hb ?hc ?hd ?he ?hf ?hg ?hh ?hi ?hj) ?k1 ?k2 ?k3 ?k4 ?k5 ?kK ?kd ?ku ?_; (case k1 => k_asm); (case k2 => k_asm); (case k3 => k_asm); (case k4 => k_asm); (case k5 => k_asm); (case kK => first | exact rfl | assumption); (case kd => ktr_room); (case ku => ktr_units); (case ha => (walk_at "NTn")); (case hb => (walk_at "NTn")); (case hc => (walk_at "NTa")); (case hd => (walk_at "NTa")); (case he => (walk_at "NTa")); (case hf => (walk_at "NTa")); (case hg => (walk_at "NTa")); (case hh => (walk_at "NTa")); (case hi => (walk_at "NTa")); (case hj => (walk_at "NTa")); intro r9 tl9 h9 tk9 F9 N9 ho9; obtain ⟨u9, e9⟩ := ho9; subst e9; (try dsimp only); (try k_fold)))
  k_with "NT call ref" => (k_here; (with_reducible show wpAny _ _ (PySem.call (Value.ref 219) _ _) _ _ _); k_dflt (refine' Does.use (c_fullm _ _ _ _ _ _ ?ha ?hb ?hc ?hd ?he) ?k1 ?k2 ?k3 ?k4 ?k5 ?kK ?kd ?ku ?_; (case k1 => k_asm); (case k2 => k_asm); (case k3 => k_asm); (case k4 => k_asm); (case k5 => k_asm); (case kK => first | exact rfl | assumption); (case kd => ktr_room); (case ku => ktr_units); (case ha => (walk_at "NTn")); (case hb => (walk_at "NTa")); (case hc => (walk_at "NTa")); (case hd => (walk_at "NTa")); (case he => (walk_at "NTa")); intro r9 tl9 h9 tk9 F9 N9 ho9; obtain ⟨a9, P9, u9, v9, e9, hm9, hP9⟩ := ho9; subst e9; subst hP9; (try dsimp only); (try k_fold)))
  k_with "NT call ref" => (k_here; (with_reducible show wpAny _ _ (PySem.call (Value.ref 226) _ _) _ _ _); k_dflt (refine' Does.use (c_farther _ _ _ _ _ _ ?ha ?hb ?hc ?hd ?he ?hf ?hg ?hh ?hi) ?k1 ?k2 ?k3 ?k4 ?k5 ?kK ?kd ?ku ?_; (case k1 => k_asm); (case k2 => k_asm); (case k3 => k_asm); (case k4 => k_asm); (case k5 => k_asm); (case kK => first | exact rfl | assumption); (case kd => ktr_room); (case ku => ktr_units); (case ha => (walk_at "NTn")); (case hb => (walk_at "NTa")); (case hc => (walk_at "NTa")); (case hd => (walk_at "NTa")); (case he => (walk_at "NTa")); (case hf => (walk_at "NTa")); (case hg => (walk_at "NTa")); (case hh => (walk_at "NTa")); (case hi => (walk_at "NTa")); intro r9 tl9 h9 tk9 F9 N9 ho9; obtain ⟨m9, e9, hm9, hn9⟩ := ho9; (try dsimp only); (try k_fold)))
  k_with "NT call ref" => (k_here; (with_reducible show wpAny _ _ (PySem.call (Value.ref 233) _ _) _ _ _); k_dflt (refine' Does.use (c_nearer _ _ _ _ _ _ ?ha ?hb ?hc ?hd ?he ?hf ?hg ?hh ?hi) ?k1 ?k2 ?k3 ?k4 ?k5 ?kK ?kd ?ku ?_; (case k1 => k_asm); (case k2 => k_asm); (case k3 => k_asm); (case k4 => k_asm); (case k5 => k_asm); (case kK => first | exact rfl | assumption); (case kd => ktr_room); (case ku => ktr_units); (case ha => (walk_at "NTn")); (case hb => (walk_at "NTa")); (case hc => (walk_at "NTa")); (case hd => (walk_at "NTa")); (case he => (walk_at "NTa")); (case hf => (walk_at "NTa")); (case hg => (walk_at "NTa")); (case hh => (walk_at "NTa")); (case hi => (walk_at "NTa")); intro r9 tl9 h9 tk9 F9 N9 ho9; obtain ⟨m9, e9, hm9, hn9⟩ := ho9; (try dsimp only); (try k_fold)))
  k_with "NT call ref" => (k_here; (with_reducible show wpAny _ _ (PySem.call (Value.ref 240) _ _) _ _ _); k_dflt (refine' Does.use (c_above _ _ _ _ _ _ ?ha ?hb ?hc ?hd ?he ?hf ?hg ?hh ?hi) ?k1 ?k2 ?k3 ?k4 ?k5 ?kK ?kd ?ku ?_; (case k1 => k_asm); (case k2 => k_asm); (case k3 => k_asm); (case k4 => k_asm); (case k5 => k_asm); (case kK => first | exact rfl | assumption); (case kd => ktr_room); (case ku => ktr_units); (case ha => (walk_at "NTn")); (case hb => (walk_at "NTa")); (case hc => (walk_at "NTa")); (case hd => (walk_at "NTa")); (case he => (walk_at "NTa")); (case hf => (walk_at "NTa")); (case hg => (walk_at "NTa")); (case hh => (walk_at "NTa")); (case hi => (walk_at "NTa")); intro r9 tl9 h9 tk9 F9 N9 ho9; obtain ⟨m9, e9, hm9, hn9⟩ := ho9; (try dsimp only); (try k_fold)))
  k_with "NT call ref" => (k_here; (with_reducible show wpAny _ _ (PySem.call (Value.ref 247) _ _) _ _ _); k_dflt (refine' Does.use (c_below _ _ _ _ _ _ ?ha ?hb ?hc ?hd ?he ?hf ?hg ?hh ?hi) ?k1 ?k2 ?k3 ?k4 ?k5 ?kK ?kd ?ku ?_; (case k1 => k_asm); (case k2 => k_asm); (case k3 => k_asm); (case k4 => k_asm); (case k5 => k_asm); (case kK => first | exact rfl | assumption); (case kd => ktr_room); (case ku => ktr_units); (case ha => (walk_at "NTn")); (case hb => (walk_at "NTa")); (case hc => (walk_at "NTa")); (case hd => (walk_at "NTa")); (case he => (walk_at "NTa")); (case hf => (walk_at "NTa")); (case hg => (walk_at "NTa")); (case hh => (walk_at "NTa")); (case hi => (walk_at "NTa")); intro r9 tl9 h9 tk9 F9 N9 ho9; obtain ⟨m9, e9, hm9, hn9⟩ := ho9; (try dsimp only); (try k_fold)))
  k_with "NT call builtin:isinstance" => (k_here; (with_reducible show wpAny _ _ (PySem.call (Value.builtin "isinstance") [_, Value.ref 96]) _ _ _); k_dflt (refine' isi_num ?k1 ?k2 ?k3 ?k4 ?k5 ?_; (case k1 => k_asm); (case k2 => k_asm); (case k3 => k_asm); (case k4 => walk_at "NTn"); (case k5 => first | assumption | exact rfl); k_whole; intro tk9; (try dsimp only [Num.isReal])))
  k_with "NT call ref" => (k_here; (with_reducible show wpAny _ _ (PySem.call (Value.ref 345) _ _) _ _ _); k_dflt (refine' Does.use (c_isinexact _ _ _ ?ha) ?k1 ?k2 ?k3 ?k4 ?k5 ?kK ?kd ?ku ?_; (case k1 => k_asm); (case k2 => k_asm); (case k3 => k_asm); (case k4 => k_asm); (case k5 => k_asm); (case kK => first | exact rfl | assumption); (case kd => ktr_room); (case ku => ktr_units); (case ha => (walk_at "NTn")); intro r9 tl9 h9 tk9 F9 N9 ho9; (have e9 : _ = _ := ho9); clear ho9; subst e9; (try dsimp only); (try k_fold)))
  k_with "NT call ref" => (k_here; (with_reducible show wpAny _ _ (PySem.call (Value.ref 282) _ _) _ _ _); k_dflt (refine' Does.use (c_isexact _ _ _ ?ha) ?k1 ?k2 ?k3 ?k4 ?k5 ?kK ?kd ?ku ?_; (case k1 => k_asm); (case k2 => k_asm); (case k3 => k_asm); (case k4 => k_asm); (case k5 => k_asm); (case kK => first | exact rfl | assumption); (case kd => ktr_room); (case ku => ktr_units); (case ha => (walk_at "NTn")); intro r9 tl9 h9 tk9 F9 N9 ho9; (have e9 : _ = _ := ho9); clear ho9; subst e9; (try dsimp only); (try k_fold)))
  k_with "NT call ref" => (k_here; (with_reducible show wpAny _ _ (PySem.call (Value.ref 289) _ _) _ _ _); k_dflt (refine' Does.use (c_topof _ _ _ ?ha ?hb) ?k1 ?k2 ?k3 ?k4 ?k5 ?kK ?kd ?ku ?_; (case k1 => k_asm); (case k2 => k_asm); (case k3 => k_asm); (case k4 => k_asm); (case k5 => k_asm); (case kK => first | exact rfl | assumption); (case kd => ktr_room); (case ku => ktr_units); (case ha => (walk_at "NTn")); (case hb => first | assumption | rfl); intro r9 tl9 h9 tk9 F9 N9 ho9; obtain ⟨u9, e9⟩ := ho9; subst e9; (try dsimp only); (try k_fold)))
  k_with "NT call ref" => (k_here; (with_reducible show wpAny _ _ (PySem.call (Value.ref 296) _ _) _ _ _); k_dflt (refine' Does.use (c_bottomof _ _ _ ?ha ?hb) ?k1 ?k2 ?k3 ?k4 ?k5 ?kK ?kd ?ku ?_; (case k1 => k_asm); (case k2 => k_asm); (case k3 => k_asm); (case k4 => k_asm); (case k5 => k_asm); (case kK => first | exact rfl | assumption); (case kd => ktr_room); (case ku => ktr_units); (case ha => (walk_at "NTn")); (case hb => first | assumption | rfl); intro r9 tl9 h9 tk9 F9 N9 ho9; obtain ⟨u9, e9⟩ := ho9; subst e9; (try dsimp only); (try k_fold)))
  k_with "NT call ref" => (k_here; (with_reducible show wpAny _ _ (PySem.call (Value.ref 177) _ _) _ _ _); k_dflt (refine' Does.use (c_signof' _ _ _ ?ha ?hb) ?k1 ?k2 ?k3 ?k4 ?k5 ?kK ?kd ?ku ?_; (case k1 => k_asm); (case k2 => k_asm); (case k3 => k_asm); (case k4 => k_asm); (case k5 => k_asm); (case kK => first | exact rfl | assumption); (case kd => ktr_room); (case ku => ktr_units); (case ha => (walk_at "NTn")); (case hb => first | assumption | rfl); intro r9 tl9 h9 tk9 F9 N9 ho9; obtain ⟨u9, e9⟩ := ho9; subst e9; (try dsimp only); (try k_fold)))
  k_with "NT call ref" => (k_here; (with_reducible show wpAny _ _ (PySem.call (Value.ref 212) _ _) _ _ _); k_dflt (refine' Does.use (c_cmpreals' _ _ _ _ _ _ ?ha ?hb ?hc ?hd ?he ?hf ?hg) ?k1 ?k2 ?k3 ?k4 ?k5 ?kK ?kd ?ku ?_; (case k1 => k_asm); (case k2 => k_asm); (case k3 => k_asm); (case k4 => k_asm); (case k5 => k_asm); (case kK => first | exact rfl | assumption); (case kd => ktr_room); (case ku => ktr_units); (case ha => (walk_at "NTn")); (case hb => (walk_at "NTn")); (case hc => first | assumption | rfl); (case hd => first | assumption | rfl); (case he => (walk_at "NTa")); (case hf => (walk_at "NTo")); (case hg => (walk_at "NTo")); intro r9 tl9 h9 tk9 F9 N9 ho9; obtain ⟨u9, e9⟩ := ho9; subst e9; (try dsimp only); (try k_fold)))
  k_with "NT call ref" => (k_here; (with_reducible show wpAny _ _ (PySem.call (Value.ref 198) _ _) _ _ _); k_dflt (refine' Does.use (c_same' _ _ _ _ _ _ ?ha ?hb ?hc ?hd ?hf ?hg) ?k1 ?k2 ?k3 ?k4 ?k5 ?kK ?kd ?ku ?_; (case k1 => k_asm); (case k2 => k_asm); (case k3 => k_asm); (case k4 => k_asm); (case k5 => k_asm); (case kK => first | exact rfl | assumption); (case kd => ktr_room); (case ku => ktr_units); (case ha => (walk_at "NTn")); (case hb => (walk_at "NTn")); (case hc => first | assumption | rfl); (case hd => first | assumption | rfl); (case hf => (walk_at "NTo")); (case hg => (walk_at "NTo")); intro r9 tl9 h9 tk9 F9 N9 ho9; (have e9 : _ = _ := ho9); clear ho9; subst e9; (try dsimp only); (try k_fold)))
  k_with "NT call ref" => (k_here; (with_reducible show wpAny _ _ (PySem.call (Value.ref 163) _ _) _ _ _); k_dflt (refine' Does.use (c_exparts' _ _ _ _ ?ha ?hb ?hc ?hd) ?k1 ?k2 ?k3 ?k4 ?k5 ?kK ?kd ?ku ?_; (case k1 => k_asm); (case k2 => k_asm); (case k3 => k_asm); (case k4 => k_asm); (case k5 => k_asm); (case kK => first | exact rfl | assumption); (case kd => ktr_room); (case ku => ktr_units); (case ha => (walk_at "NTn")); (case hb => first | assumption | rfl); (case hc => (walk_at "NTa")); (case hd => (walk_at "NTo")); intro r9 tl9 h9 tk9 F9 N9 ho9; obtain ⟨a9, p9, q9, u9, v9, e9, hm9, hp9, hq9⟩ := ho9; subst e9; subst hp9; subst hq9; (try dsimp only); (try k_fold)))
  k_with "NT call ref" => (k_here; (with_reducible show wpAny _ _ (PySem.call (Value.ref 352) _ _) _ _ _); k_dflt (refine' Does.use (c_sign _ _ _ ?ha) ?k1 ?k2 ?k3 ?k4 ?k5 ?kK ?kd ?ku ?_; (case k1 => k_asm); (case k2 => k_asm); (case k3 => k_asm); (case k4 => k_asm); (case k5 => k_asm); (case kK => first | exact rfl | assumption); (case kd => ktr_room); (case ku => ktr_units); (case ha => (walk_at "NTn")); intro r9 tl9 h9 tk9 F9 N9 ho9; obtain ⟨u9, e9⟩ := ho9; subst e9; (try dsimp only); (try k_fold)))
  k_with "NT call ref" => (k_here; (with_reducible show wpAny _ _ (PySem.call (Value.ref 331) _ _) _ _ _); k_dflt (refine' Does.use (c_cmpexact _ _ _ _ _ ?ha ?hb ?hc ?hd ?he ?hf ?hg ?hh) ?k1 ?k2 ?k3 ?k4 ?k5 ?kK ?kd ?ku ?_; (case k1 => k_asm); (case k2 => k_asm); (case k3 => k_asm); (case k4 => k_asm); (case k5 => k_asm); (case kK => first | exact rfl | assumption); (case kd => ktr_room); (case ku => ktr_units); (case ha => (walk_at "NTn")); (case hb => (walk_at "NTn")); (case hc => first | assumption | rfl | exact ex_isReal _); (case hd => first | assumption | rfl | exact ex_isReal _); (case he => (walk_at "NTa")); (case hf => (walk_at "NTa")); (case hg => (walk_at "NTa")); (case hh => (walk_at "NTa")); intro r9 tl9 h9 tk9 F9 N9 ho9; obtain ⟨u9, e9⟩ := ho9; subst e9; (try dsimp only); (try k_fold)))
  k_with "NT call ref" => (k_here; (with_reducible show wpAny _ _ (PySem.call (Value.ref 338) _ _) _ _ _); k_dflt (refine' Does.use (c_eqexact _ _ _ _ _ _ ?ha ?hb ?hc ?hd ?hf ?hg) ?k1 ?k2 ?k3 ?k4 ?k5 ?kK ?kd ?ku ?_; (case k1 => k_asm); (case k2 => k_asm); (case k3 => k_asm); (case k4 => k_asm); (case k5 => k_asm); (case kK => first | exact rfl | assumption); (case kd => ktr_room); (case ku => ktr_units); (case ha => (walk_at "NTn")); (case hb => (walk_at "NTn")); (case hc => first | assumption | rfl); (case hd => first | assumption | rfl); (case hf => (walk_at "NTo")); (case hg => (walk_at "NTo")); intro r9 tl9 h9 tk9 F9 N9 ho9; (have e9 : _ = _ := ho9); clear ho9; subst e9; (try dsimp only); (try k_fold)))
  k_with "NT call ref" => (k_here; (with_reducible show wpAny _ _ (PySem.call (Value.ref 303) _ _) _ _ _); k_dflt (refine' Does.use (c_gcdof _ _ _ _ _) ?k1 ?k2 ?k3 ?k4 ?k5 ?kK ?kd ?ku ?_; (case k1 => k_asm); (case k2 => k_asm); (case k3 => k_asm); (case k4 => k_asm); (case k5 => k_asm); (case kK => first | exact rfl | assumption); (case kd => ktr_room); (case ku => ktr_units);  intro r9 tl9 h9 tk9 F9 N9 ho9; obtain ⟨u9, e9⟩ := ho9; subst e9; (try dsimp only); (try k_fold)))
  k_with "NT call ref" => (k_here; (with_reducible show wpAny _ _ (PySem.call (Value.ref 317) _ _) _ _ _); k_dflt (refine' Does.use (c_ratioof _ _ _ _ _ ?ha ?hb) ?k1 ?k2 ?k3 ?k4 ?k5 ?kK ?kd ?ku ?_; (case k1 => k_asm); (case k2 => k_asm); (case k3 => k_asm); (case k4 => k_asm); (case k5 => k_asm); (case kK => first | exact rfl | assumption); (case kd => ktr_room); (case ku => ktr_units); (case ha => (walk_at "NTa")); (case hb => (walk_at "NTa")); intro r9 tl9 h9 tk9 F9 N9 ho9; (try dsimp only); (try k_fold)))
  k_with "NT call ref" => (k_here; (with_reducible show wpAny _ _ (PySem.call (Value.ref 359) _ _) _ _ _); k_dflt (refine' Does.use (c_toexact _ _ _ _ ?ha ?hb ?hc) ?k1 ?k2 ?k3 ?k4 ?k5 ?kK ?kd ?ku ?_; (case k1 => k_asm); (case k2 => k_asm); (case k3 => k_asm); (case k4 => k_asm); (case k5 => k_asm); (case kK => first | exact rfl | assumption); (case kd => ktr_room); (case ku => ktr_units); (case ha => (walk_at "NTn")); (case hb => (walk_at "NTa")); (case hc => (walk_at "NTo")); intro r9 tl9 h9 tk9 F9 N9 ho9; (try dsimp only); (try k_fold)))
  k_with "NT call ref" => (k_here; (with_reducible show wpAny _ _ (PySem.call (Value.ref 366) _ _) _ _ _); k_dflt (refine' Does.use (c_toinexact _ _ _ _ _ ?ha ?hb ?hc ?hd) ?k1 ?k2 ?k3 ?k4 ?k5 ?kK ?kd ?ku ?_; (case k1 => k_asm); (case k2 => k_asm); (case k3 => k_asm); (case k4 => k_asm); (case k5 => k_asm); (case kK => first | exact rfl | assumption); (case kd => ktr_room); (case ku => ktr_units); (case ha => (walk_at "NTn")); (case hb => (walk_at "NTa")); (case hc => (walk_at "NTa")); (case hd => (walk_at "NTo")); intro r9 tl9 h9 tk9 F9 N9 ho9; obtain ⟨m9, e9, hm9, hs9, ho9⟩ := ho9; (try dsimp only); (try k_fold)))
  k_with "NT call ref" => (k_here; (with_reducible show wpAny _ _ (PySem.call (Value.ref 387) _ _) _ _ _); k_dflt (refine' Does.use (c_compare _ _ _ _ _ _ ?ha ?hb ?hc ?hd ?he) ?k1 ?k2 ?k3 ?k4 ?k5 ?kK ?kd ?ku ?_; (case k1 => k_asm); (case k2 => k_asm); (case k3 => k_asm); (case k4 => k_asm); (case k5 => k_asm); (case kK => first | exact rfl | assumption); (case kd => ktr_room); (case ku => ktr_units); (case ha => (walk_at "NTn")); (case hb => (walk_at "NTn")); (case hc => (walk_at "NTa")); (case hd => (walk_at "NTo")); (case he => (walk_at "NTo")); intro r9 tl9 h9 tk9 F9 N9 ho9; obtain ⟨u9, e9⟩ := ho9; subst e9; (try dsimp only); (try k_fold)))
  k_with "NT call ref" => (k_here; (with_reducible show wpAny _ _ (PySem.call (Value.ref 394) _ _) _ _ _); k_dflt (refine' Does.use (c_samenum _ _ _ _ _ _ ?ha ?hb ?hc ?hd) ?k1 ?k2 ?k3 ?k4 ?k5 ?kK ?kd ?ku ?_; (case k1 => k_asm); (case k2 => k_asm); (case k3 => k_asm); (case k4 => k_asm); (case k5 => k_asm); (case kK => first | exact rfl | assumption); (case kd => ktr_room); (case ku => ktr_units); (case ha => (walk_at "NTn")); (case hb => (walk_at "NTn")); (case hc => (walk_at "NTo")); (case hd => (walk_at "NTo")); intro r9 tl9 h9 tk9 F9 N9 ho9; (have e9 : _ = _ := ho9); clear ho9; subst e9; (try dsimp only); (try k_fold)))
  k_with "NT call ref" => (k_here; (with_reducible show wpAny _ _ (PySem.call (Value.ref 373) _ _) _ _ _); k_dflt (refine' Does.use (c_hasinexact _ _ _ _ _ _ ?hl ?ha ?hb) ?k1 ?k2 ?k3 ?k4 ?k5 ?kK ?kd ?ku ?_; (case k1 => k_asm); (case k2 => k_asm); (case k3 => k_asm); (case k4 => k_asm); (case k5 => k_asm); (case kK => first | exact rfl | assumption); (case kd => ktr_room); (case ku => ktr_units); (case hl => walk_at "NTm"); (case ha => (walk_at "NTn")); (case hb => (walk_at "NTn")); intro r9 tl9 h9 tk9 F9 N9 ho9; (have e9 : _ = _ := ho9); clear ho9; subst e9; (try dsimp only); (try k_fold)))
  k_with "NT call ref" => (k_here; (with_reducible show wpAny _ _ (PySem.call (Value.ref 380) _ _) _ _ _); k_dflt (refine' Does.use (c_asof _ _ _ _ _ _ _ _ _ _ ?hl ?ha ?hb ?hc ?hd ?he ?hf) ?k1 ?k2 ?k3 ?k4 ?k5 ?kK ?kd ?ku ?_; (case k1 => k_asm); (case k2 => k_asm); (case k3 => k_asm); (case k4 => k_asm); (case k5 => k_asm); (case kK => first | exact rfl | assumption); (case kd => ktr_room); (case ku => ktr_units); (case hl => walk_at "NTm"); (case ha => (walk_at "NTn")); (case hb => (walk_at "NTn")); (case hc => (walk_at "NTn")); (case hd => (walk_at "NTa")); (case he => (walk_at "NTa")); (case hf => (walk_at "NTo")); intro r9 tl9 h9 tk9 F9 N9 ho9; obtain ⟨z9, hz9, hk9⟩ := ho9; (try dsimp only); (try k_fold)))
  k_with "NT call ref" => (k_here; (with_reducible show wpAny _ _ (PySem.call (Value.ref 583) _ _) _ _ _); k_dflt (refine' Does.use (c_greatest _ _ _ _ _ _ _ _ ?ht ?hl ?ha ?hb ?hc ?hd ?he ?hf) ?k1 ?k2 ?k3 ?k4 ?k5 ?kK ?kd ?ku ?_; (case k1 => k_asm); (case k2 => k_asm); (case k3 => k_asm); (case k4 => k_asm); (case k5 => k_asm); (case kK => first | exact rfl | assumption); (case kd => ktr_room); (case ku => ktr_units); (case ht => walk_at "NTt"); (case hl => walk_at "NTm"); (case ha => (walk_at "NTn")); (case hb => (walk_at "NTn")); (case hc => (walk_at "NTa")); (case hd => (walk_at "NTa")); (case he => (walk_at "NTo")); (case hf => (walk_at "NTo")); intro r9 tl9 h9 tk9 F9 N9 ho9; obtain ⟨z9, hz9, hk9⟩ := ho9; (try dsimp only); (try k_fold)))
  k_with "NT call ref" => (k_here; (with_reducible show wpAny _ _ (PySem.call (Value.ref 590) _ _) _ _ _); k_dflt (refine' Does.use (c_least _ _ _ _ _ _ _ _ ?ht ?hl ?ha ?hb ?hc ?hd ?he ?hf) ?k1 ?k2 ?k3 ?k4 ?k5 ?kK ?kd ?ku ?_; (case k1 => k_asm); (case k2 => k_asm); (case k3 => k_asm); (case k4 => k_asm); (case k5 => k_asm); (case kK => first | exact rfl | assumption); (case kd => ktr_room); (case ku => ktr_units); (case ht => walk_at "NTt"); (case hl => walk_at "NTm"); (case ha => (walk_at "NTn")); (case hb => (walk_at "NTn")); (case hc => (walk_at "NTa")); (case hd => (walk_at "NTa")); (case he => (walk_at "NTo")); (case hf => (walk_at "NTo")); intro r9 tl9 h9 tk9 F9 N9 ho9; obtain ⟨z9, hz9, hk9⟩ := ho9; (try dsimp only); (try k_fold)))
  k_with "NT call ref" => (k_here; (with_reducible show wpAny _ _ (PySem.call (Value.ref 716) _ _) _ _ _); k_dflt (refine' Does.use (c_lfrac _ _ _ _ ?ha ?hb ?hc) ?k1 ?k2 ?k3 ?k4 ?k5 ?kK ?kd ?ku ?_; (case k1 => k_asm); (case k2 => k_asm); (case k3 => k_asm); (case k4 => k_asm); (case k5 => k_asm); (case kK => first | exact rfl | assumption); (case kd => ktr_room); (case ku => ktr_units); (case ha => (walk_at "NTn")); (case hb => (walk_at "NTa")); (case hc => (walk_at "NTo")); intro r9 tl9 h9 tk9 F9 N9 ho9; obtain ⟨a9, s9, q9, u9, w9, e9, hm9, hp9, hq9⟩ := ho9; subst e9; subst hp9; subst hq9; (try dsimp only); (try k_fold)))
  k_with "NT call ref" => (k_here; (with_reducible show wpAny _ _ (PySem.call (Value.ref 737) _ _) _ _ _); k_dflt (refine' Does.use (c_lless _ _ _ _ _ _ ?ha ?hb ?hc ?hd ?he) ?k1 ?k2 ?k3 ?k4 ?k5 ?kK ?kd ?ku ?_; (case k1 => k_asm); (case k2 => k_asm); (case k3 => k_asm); (case k4 => k_asm); (case k5 => k_asm); (case kK => first | exact rfl | assumption); (case kd => ktr_room); (case ku => ktr_units); (case ha => (walk_at "NTn")); (case hb => (walk_at "NTn")); (case hc => (walk_at "NTa")); (case hd => (walk_at "NTo")); (case he => (walk_at "NTo")); intro r9 tl9 h9 tk9 F9 N9 ho9; obtain ⟨u9, e9⟩ := ho9; subst e9; (try dsimp only); (try k_fold)))
  k_with "NT call ref" => (k_here; (with_reducible show wpAny _ _ (PySem.call (Value.ref 723) _ _) _ _ _); k_dflt (refine' Does.use (c_lshownR _ _ _ _ ?ha) ?k1 ?k2 ?k3 ?k4 ?k5 ?kK ?kd ?ku ?_; (case k1 => k_asm); (case k2 => k_asm); (case k3 => k_asm); (case k4 => k_asm); (case k5 => k_asm); (case kK => first | exact rfl | assumption); (case kd => ktr_room); (case ku => ktr_units); (case ha => (walk_at "NTn")); intro r9 tl9 h9 tk9 F9 N9 ho9; obtain ⟨a9, u9, v9, w9, e9, hm9⟩ := ho9; subst e9; (try dsimp only); (try k_fold)))
  k_with "NT call ref" => (k_here; (with_reducible show wpAny _ _ (PySem.call (Value.ref 723) _ _) _ _ _); k_dflt (refine' Does.use (c_lshownE _ _ _ ?ha ?hb) ?k1 ?k2 ?k3 ?k4 ?k5 ?kK ?kd ?ku ?_; (case k1 => k_asm); (case k2 => k_asm); (case k3 => k_asm); (case k4 => k_asm); (case k5 => k_asm); (case kK => first | exact rfl | assumption); (case kd => ktr_room); (case ku => ktr_units); (case ha => (walk_at "NTn")); (case hb => first | assumption | exact ex_isReal _ | rfl); intro r9 tl9 h9 tk9 F9 N9 ho9; obtain ⟨a9, u9, v9, w9, e9, hm9⟩ := ho9; subst e9; (try dsimp only); (try k_fold)))
  k_with "NT call ref" => (k_here; (with_reducible show wpAny _ _ (PySem.call (Value.ref 709) _ _) _ _ _); k_dflt (refine' Does.use (c_lreal _ _ _ _ _) ?k1 ?k2 ?k3 ?k4 ?k5 ?kK ?kd ?ku ?_; (case k1 => k_asm); (case k2 => k_asm); (case k3 => k_asm); (case k4 => k_asm); (case k5 => k_asm); (case kK => first | exact rfl | assumption); (case kd => ktr_room); (case ku => ktr_units);  intro r9 tl9 h9 tk9 F9 N9 ho9; obtain ⟨m9, e9, hm9, hn9⟩ := ho9; (try dsimp only); (try k_fold)))
  k_with "NT call ref" => (k_here; (with_reducible show wpAny _ _ (PySem.call (Value.ref 702) _ _) _ _ _); k_dflt (refine' Does.use (c_lnear _ _ _ _ _ _ _ ?ha ?hb ?hc ?hd ?he ?hf) ?k1 ?k2 ?k3 ?k4 ?k5 ?kK ?kd ?ku ?_; (case k1 => k_asm); (case k2 => k_asm); (case k3 => k_asm); (case k4 => k_asm); (case k5 => k_asm); (case kK => first | exact rfl | assumption); (case kd => ktr_room); (case ku => ktr_units); (case ha => (walk_at "NTa")); (case hb => (walk_at "NTa")); (case hc => (walk_at "NTa")); (case hd => (walk_at "NTa")); (case he => (walk_at "NTa")); (case hf => (walk_at "NTa")); intro r9 tl9 h9 tk9 F9 N9 ho9; obtain ⟨a9, m9, e9, u9, w9, q9, hm9, hs9⟩ := ho9; subst q9; (try dsimp only); (try k_fold)))
  k_with "NT call ref" => (k_here; (with_reducible show wpAny _ _ (PySem.call (Value.ref 744) _ _) _ _ _); k_dflt (refine' Does.use (c_lnext _ _ _ _ _ _ _ _ ?ha ?hb ?hc ?hd ?he ?hf ?hg ?hh ?hi ?hj) ?k1 ?k2 ?k3 ?k4 ?k5 ?kK ?kd ?ku ?_; (case k1 => k_asm); (case k2 => k_asm); (case k3 => k_asm); (case k4 => k_asm); (case k5 => k_asm); (case kK => first | exact rfl | assumption); (case kd => ktr_room); (case ku => ktr_units); (case ha => (walk_at "NTn")); (case hb => (walk_at "NTa")); (case hc => (walk_at "NTa")); (case hd => (walk_at "NTa")); (case he => (walk_at "NTa")); (case hf => (walk_at "NTa")); (case hg => (walk_at "NTa")); (case hh => (walk_at "NTa")); (case hi => (walk_at "NTa")); (case hj => (walk_at "NTa")); intro r9 tl9 h9 tk9 F9 N9 ho9; obtain ⟨a9, m9, e9, u9, w9, x9, q9, hm9, hs9⟩ := ho9; subst q9; (try dsimp only); (try k_fold)))
  k_with "NT call ref" => (k_here; (with_reducible show wpAny _ _ (PySem.call (Value.ref 730) _ _) _ _ _); k_dflt (refine' Does.use (c_lnumber _ _ _ _ _ ?ha ?hb) ?k1 ?k2 ?k3 ?k4 ?k5 ?kK ?kd ?ku ?_; (case k1 => k_asm); (case k2 => k_asm); (case k3 => k_asm); (case k4 => k_asm); (case k5 => k_asm); (case kK => first | exact rfl | assumption); (case kd => ktr_room); (case ku => ktr_units); (case ha => (walk_at "NTa")); (case hb => (walk_at "NTa")); intro r9 tl9 h9 tk9 F9 N9 ho9; obtain ⟨x9, hx9, hk9⟩ := ho9; (try dsimp only); (try k_fold)))
  k_with "NT call ref" => (k_here; (with_reducible show wpAny _ _ (PySem.call (Value.ref 751) _ _) _ _ _); k_dflt (refine' Does.use (c_lsingle _ _ _ _ _ ?ha ?hb ?hc ?hd) ?k1 ?k2 ?k3 ?k4 ?k5 ?kK ?kd ?ku ?_; (case k1 => k_asm); (case k2 => k_asm); (case k3 => k_asm); (case k4 => k_asm); (case k5 => k_asm); (case kK => first | exact rfl | assumption); (case kd => ktr_room); (case ku => ktr_units); (case ha => (walk_at "NTn")); (case hb => (walk_at "NTa")); (case hc => (walk_at "NTa")); (case hd => (walk_at "NTo")); intro r9 tl9 h9 tk9 F9 N9 ho9; (have e9 : _ = _ := ho9); clear ho9; subst e9; (try dsimp only); (try k_fold)))
  k_with "NT storeName" => (k_here; k_dflt (refine' store_cell ?F ?N ?m ?s ?l ?lt ?c ?d ?_ ?a ?b; (case a => rfl); (case b => rfl); (case F => k_asm); (case N => k_asm); (case c => rfl); (case m => k_mem); (case d => k_asm); (case lt => exact Nat.lt_succ_self _); (case l => assumption); (case s => ktd_sub)); intro h' o' F' N' d'; (try dsimp only))
  k_with "NT call ref" => (k_here; (with_reducible show wpAny _ _ (PySem.call (Value.ref 723) _ _) _ _ _); k_dflt (refine' Does.use (c_lshown _ _ _ ?ha) ?k1 ?k2 ?k3 ?k4 ?k5 ?kK ?kd ?ku ?_; (case k1 => k_asm); (case k2 => k_asm); (case k3 => k_asm); (case k4 => k_asm); (case k5 => k_asm); (case kK => first | exact rfl | assumption); (case kd => ktr_room); (case ku => ktr_units); (case ha => (walk_at "NTn")); intro r9 tl9 h9 tk9 F9 N9 ho9; obtain ⟨a9, u9, v9, w9, e9, hm9⟩ := ho9; subst e9; (try dsimp only); (try k_fold)))
  k_with "NT binaryOp Mult int int" => refine NT.Halt.out ?_
  k_with "NT exec If" => refine NT.Halt.out ?_
  k_with "NT SrcOf" => refine NT.Halt.out ?_
  k_with "NT TurnEnd" => refine NT.Halt.out ?_
  k_with "NT eval ListComp" => (k_here; k_dflt (refine NT.comp_eval (by k_asm) (by with_unfolding_all rfl) (by decide) (by rfl) (by decide) (by rfl) ?_))
  k_with "NT exec Assign cons ListComp" => (k_here; k_dflt (refine NT.comp_assign (by k_asm) (by rfl) (by with_unfolding_all rfl) (by with_unfolding_all rfl) (by decide) (by rfl) (by decide) (by rfl) (by rfl) (by rfl) ?_))
  k_with "NT TestPost" => refine NT.Halt.out ?_
  k_with "NT CutPost" => refine NT.Halt.out ?_
  k_with "NT exec Assign cons BoolOp" => refine NT.Halt.out ?_
  k_with "NT exec Assign cons IfExp" => refine NT.Halt.out ?_
  k_steps
  refine Halt.put ?_
  refine wpAny_If ?_
  k_steps
  refine Halt.put ?_
  refine cut_store (Str.ofString "is_alike") (fun _ r => r = .bool (x.isReal == y.isReal && decide (less x y = 0))) (by k_asm) (by k_asm) ?_ ?_
  · refine wpAny_Assign_Name ?_
    cases hbx : x.isReal <;> cases hby : y.isReal
    all_goals (k_steps; all_goals (refine Halt.put ?_; refine cut_end (by assumption) (by assumption) (by ktd_sub) ?_))
    all_goals first | (simp [*]; done) | (simp [*]; rfl)
  intro h' tk r tl F' N' e9
  subst e9
  dsimp only
  k_steps
  refine Halt.put ?_
  refine wpAny_If ?_
  k_steps
  refine Halt.put ?_
  refine wpAny_If ?_
  k_steps
  refine Halt.put ?_
  have hnn := near_pair hp1 hp2 ox oy (by assumption) (by assumption) (by assumption) (by assumption)
  refine mul_int ?_ (mulSignOk _ _)
  k_steps
  refine Halt.put ?_
  refine cut_store (Str.ofString "ends") (Two p x y) (by k_asm) (by k_asm) ?_ ?_
  · refine wpAny_Assign_Name ?_
    k_steps
    · refine Halt.put ?_
      refine cut_end (by assumption) (by assumption) (by ktd_sub) ⟨_, _, _, y, x, rfl, by k_mem, by walk_at "NTn", by walk_at "NTn", oy, ox, ?_, ?_, .inl rfl⟩
      · rw [if_pos (by omega)]
      · rw [if_neg (by omega)]; exact less_refl x
    · refine Halt.put ?_
      refine cut_end (by assumption) (by assumption) (by ktd_sub) ⟨_, _, _, x, y, rfl, by k_mem, by walk_at "NTn", by walk_at "NTn", ox, oy, ?_, ?_, .inr rfl⟩
      · rw [if_neg (by omega)]
      · split
        · exact less_refl y
        · omega
  rintro h' tk r tl F' N' ⟨l, v1, v2, z1, z2, rfl, hl, hn1, hn2, oz1, oz2, ez1, ez2, ez3⟩
  generalize (x.isReal == y.isReal && decide (less x y = 0)) = alike at F' ⊢
  dsimp only
  k_steps
  refine Halt.put ?_
  refine cut_store (Str.ofString "ends") (Two2 p (x.isReal || y.isReal) z1 z2) (by k_asm) (by k_asm) ?_ ?_
  · refine wpAny_If ?_
    refine cut_test (x.isReal || y.isReal) (by k_asm) (by k_asm) ?_ ?_
    · cases hbx : x.isReal <;> cases hby : y.isReal
      all_goals (k_steps; all_goals (refine Halt.put ?_; refine TestPost.intro ?_ (by assumption) (by assumption)))
      all_goals first | (simp [*]; done) | (simp [*]; rfl)
    intro h' tk F' N'
    cases hb : (x.isReal || y.isReal)
    · k_steps
      refine Halt.put ?_
      exact cut_keep (by assumption) (by assumption) rfl (by ktd_sub) ⟨_, _, _, _, z1, z2, rfl, by k_mem, by walk_at "NTn", by walk_at "NTn", ⟨fun h => Bool.noConfusion h, fun _ => rfl⟩, ⟨fun h => Bool.noConfusion h, fun _ => rfl⟩⟩
    · k_steps
      refine Halt.put ?_
      refine SrcOf.two (NearOk p) (NumOk p) z1 z2 (fun _ _ _ _ h hs => h.mono hs) (by first | rfl | k_asm) (by k_asm) (by k_asm) (by k_mem) (by walk_at "NTn") (by walk_at "NTn") oz1 oz2 ?_ ?_
      · intro v z i ys nw I oI C oC D m₂ h tk E' hz hn hy sub hI hC hx F' N' off a1 a2 a3
        k_steps
        refine Halt.put ?_
        exact TurnEnd.num hI hC hx (by assumption) (by assumption) off sub (by assumption) fun nw' hs hr => ⟨_, rfl, ⟨_, hr, ⟨fun _ => ⟨_, _, rfl, by assumption, by assumption⟩, fun h => Bool.noConfusion h⟩⟩, hs⟩
      intro r1 r2 nw ⟨z1', hr1, hs1⟩ ⟨z2', hr2, hs2⟩ sub
      unfold FinAs
      intro D h tk F' N' off
      replace N' := news_app N' sub
      k_steps
      refine Halt.put ?_
      exact cut_end (by assumption) (by assumption) (by ktd_sub) ⟨_, _, _, _, z1', z2', rfl, by k_mem, by walk_at "NTn", by walk_at "NTn", hs1, hs2⟩
  rintro h' tk r tl F' N' ⟨l', kk, v1', v2', z1', z2', rfl, hl', hn1', hn2', hp1', hp2'⟩
  dsimp only
  k_steps
  refine Halt.put ?_
  have hb0 : (x.isReal || y.isReal) = false → x.isReal = false ∧ y.isReal = false := fun h => Bool.or_eq_false_iff.mp h
  rename PickOk p (if less y x < 0 then y else x) _ _ => hkl
  rename PickOk p (if 0 < less y x then y else x) _ _ => hkg
  rename (_, lisOf [.str (Num.word _) _, .int (Num.p _) _, .int (Num.q _) _]) ∈ _ => hmg
  revert hmg
  rename (_, lisOf [.str (Num.word _) _, .int (Num.p _) _, .int (Num.q _) _]) ∈ _ => hml
  intro hmg
  have e1 := pick_same (x := if less y x < 0 then y else x) (y := z1) hp1 (by split <;> assumption) oz1 (by rw [← ez1]; exact less_refl z1) (fun h => by rw [← ez1]; rw [ez1]; split <;> simp [hb0 h]) hkl hp1'
  have e2 := pick_same (x := if 0 < less y x then y else x) (y := z2) hp1 (by split <;> assumption) oz2 ez2 (fun h => by rcases ez3 with e | e <;> rw [e] <;> split <;> simp [hb0 h]) hkg hp2'
  refine SrcOf.two ShownN (fun _ => True) z1' z2' (fun _ _ _ _ h hs => h.mono hs) (by first | rfl | k_asm) (by k_asm) (by k_asm) (by k_mem) (by walk_at "NTn") (by walk_at "NTn") trivial trivial ?_ ?_
  · intro v z i ys nw I oI C oC D m₂ h tk E' hz hn hy sub hI hC hx F' N' off a1 a2 a3
    k_steps
    refine Halt.put ?_
    exact TurnEnd.list (by assumption) (by assumption) (by assumption) (by assumption) (by assumption) (by assumption) (by simp only [List.length_cons, List.length_nil]; omega) (by assumption) ⟨_, rfl, ⟨_, _, _, _, rfl, List.mem_cons_self⟩, fun _ hp => List.mem_cons_of_mem _ hp⟩
  · intro r1 r2 nw ⟨b1, c1, c2, c3, e3, hm1⟩ ⟨b2, c4, c5, c6, e4, hm2⟩ sub
    subst e3 e4
    rw [e1.1, e1.2.1, e1.2.2] at hml
    rw [e2.1, e2.2.1, e2.2.2] at hmg
    have hw1 := word_or z1'
    have hw2 := word_or z2'
    generalize z1'.word = w1 at hm1 hml hw1
    generalize z1'.p = i1 at hm1 hml
    generalize z1'.q = j1 at hm1 hml
    generalize z2'.word = w2 at hm2 hmg hw2
    generalize z2'.p = i2 at hm2 hmg
    generalize z2'.q = j2 at hm2 hmg
    unfold FinEv
    intro D h tk F' N' off
    replace N' := news_of3 N' hm1 hm2 sub
    rename Obj => oc
    replace N' := news_cut (keep := (L' + 1, oc) :: news) N' hml (by ktd_sub) hmg (by ktd_sub) (by ktd_sub)
    clear hm1 hm2 sub off hml hmg
    refine' eq_dataH (by ke_read) (by ke_read) (shaped_two hw1 hw2) (shaped_two hw1 hw2) (by ktr_units) ?_
    ke_norm
    k_steps
    exact ret_all hret (by assumption) (by assumption) (by ktd_sub) rfl
theorem laid_NTW16_13 : True := by
  k_with "NT call ref" => (k_here; (with_reducible show wpAny _ _ (PySem.call (Value.ref 756) _ _) _ _ _); k_dflt (refine' Does.use (c_lpair _ _ _ _ _ _ _ ?ht ?ha ?hb ?hc ?hd ?he ?hf) ?k1 ?k2 ?k3 ?k4 ?k5 ?kK ?kd ?ku ?_; (case k1 => k_asm); (case k2 => k_asm); (case k3 => k_asm); (case k4 => k_asm); (case k5 => k_asm); (case kK => first | exact rfl | assumption); (case kd => ktr_room); (case ku => ktr_units); (case ht => (walk_at "NTt")); (case ha => (walk_at "NTn")); (case hb => (walk_at "NTn")); (case hc => (walk_at "NTa")); (case hd => (walk_at "NTa")); (case he => (walk_at "NTo")); (case hf => (walk_at "NTo")); intro r9 tl9 h9 tk9 F9 N9 ho9; (have e9 : _ = _ := ho9); clear ho9; subst e9; (try dsimp only); (try k_fold)))
  trivial
theorem laid_NTW16_end : True := by
  k_with_none
  k_with "NT subscriptTail Name Constant ref int" => (k_here; (with_reducible show wpAny _ _ (subscriptTail _ _ (Value.ref _) (Value.int _ _)) _ _ _); (with_unfolding_all refine' item_litK ?k1 ?k2 ?k3 ?k4 ?_ ?k6; (case k1 => exact News.isList (by k_asm) (by k_mem)); (case k2 => decide); (case k3 => decide); (case k4 => rfl); (case k6 => with_unfolding_all rfl); k_whole))
  k_with "NT call ref" => (k_here; (refine wpAny_call ?_); k_dflt (refine' code_def ?k1 ?k2 ?k3 ?k4 ?k5 ?kA ?kF ?kK ?k6 ?k7 ?k8 ?k9 ?kB ?_ ?c2 ?c3 ?c4 ?c5; (case kA => exact rfl); (case kF => exact rfl); (case kK => first | exact rfl | assumption); (case k1 => k_asm); (case k2 => k_asm); (case k3 => k_asm); (case k4 => k_asm); (case k5 => k_asm); (case k6 => k_is); (case k7 => k_is); (case k8 => ktr_room); (case k9 => exact BindsTo.of_eq rfl); (case c5 => decide); (case kB => exact locs rfl); (case c2 => exact rfl); (case c3 => exact rfl); (case c4 => exact rfl); k_whole; intro g' L' h' FG' F' N' B' X' T'; (try dsimp only); (try k_fold)))
  k_with "NT binaryOp Add ref ref" => (k_here; (with_reducible show wpAny _ _ (binaryOp _ (Value.ref _) (Value.ref _)) _ _ _); k_dflt (refine' kmk_add_lit ?F ?N ?a ?b ?e ?_ ?z; (case F => k_asm); (case N => k_asm); (case a => kmk_list); (case b => kmk_list); (case e => kl_lit); (case z => kl_room)); intro D' h' F' N' l1; (try dsimp only))
  k_with "NT compareOp NotEq ref ref" => (k_here; (with_reducible show wpAny _ _ (compareOp CmpOp.NotEq (Value.ref _) (Value.ref _)) _ _ _); k_dflt ((refine ne_dataH (by ke_read) (by ke_read) (by ke_shaped) (by ke_shaped) (by ktr_units) ?_); ke_norm))
  k_with "NT compareOp Eq ref ref" => (k_here; (with_reducible show wpAny _ _ (compareOp CmpOp.Eq (Value.ref _) (Value.ref _)) _ _ _); k_dflt ((refine eq_dataH (by ke_read) (by ke_read) (by ke_shaped) (by ke_shaped) (by ktr_units) ?_); ke_norm))
  k_with "NT exec For Name Name cons nil" => (k_here; (rename Fr _ _ _ _ => lF'); (with_unfolding_all refine' For_invVF lF' ?k1 ?k2 ?_; (case k1 => exact rfl); (case k2 => exact rfl); k_whole))
  k_with "NT exec For Name List cons nil" => (k_here; (rename Fr _ _ _ _ => lF'); (with_unfolding_all refine' For_invVF lF' ?k1 ?k2 ?_; (case k1 => exact rfl); (case k2 => exact rfl); k_whole))
  k_with "NT exec For Name Subscript cons nil" => (k_here; (rename Fr _ _ _ _ => lF'); (with_unfolding_all refine' For_invVF lF' ?k1 ?k2 ?_; (case k1 => exact rfl); (case k2 => exact rfl); k_whole))
  k_with "NT pyIter ref" => (k_here; (with_unfolding_all refine' iter_listUnr ?k0 ?k1 ?k2 ?k3 ?k4 ?k5 ?_; (case k0 => exact rfl); (case k1 => k_asm); (case k2 => k_asm); (case k3 => k_mem); (case k4 => exact rfl); (case k5 => exact rfl); k_whole); intro i9 l9)
  k_with "NT UnrEnd" => (refine UnrEnd.intro (by assumption) (by assumption) _ ?ks (offOf (by assumption)) ⟨?km, ?_⟩; (case ks => ktd_sub); (case km => k_mem))
  k_with "NT ite" => (k_openite; k_dflt (first | (refine ite_pos ?kc ?_; (case kc => first | omega | (simp only [decide_eq_true_eq, decide_eq_false_iff_not, beq_iff_eq, bne_iff_ne, ne_eq, Bool.not_eq_true', Bool.not_eq_false', Bool.and_eq_true, Bool.and_eq_false_iff, Bool.or_eq_true, Bool.not_not]; done) | ((simp only [decide_eq_true_eq, decide_eq_false_iff_not, beq_iff_eq, bne_iff_ne, ne_eq, Bool.not_eq_true', Bool.not_eq_false', Bool.and_eq_true, Bool.and_eq_false_iff, Bool.or_eq_true, Bool.not_not]); omega) | (simp; done))) | (refine ite_neg ?kc ?_; (case kc => first | omega | (simp only [decide_eq_true_eq, decide_eq_false_iff_not, beq_iff_eq, bne_iff_ne, ne_eq, Bool.not_eq_true', Bool.not_eq_false', Bool.and_eq_true, Bool.and_eq_false_iff, Bool.or_eq_true, Bool.not_not]; done) | ((simp only [decide_eq_true_eq, decide_eq_false_iff_not, beq_iff_eq, bne_iff_ne, ne_eq, Bool.not_eq_true', Bool.not_eq_false', Bool.and_eq_true, Bool.and_eq_false_iff, Bool.or_eq_true, Bool.not_not]); omega) | (simp; done)))))
  k_with "NT NTn" => first | assumption | exact NumIn.whole | exact NumIn.mono (by assumption) (by ktd_sub) | exact NumIn.real (by k_mem) (by k_mem) | exact NumIn.ratio (by k_mem) (by k_mem)
  k_with "NT NTt" => first | assumption | exact ⟨_, _, _, _, by k_mem, by k_mem⟩
  k_with "NT NTm" => first | assumption | ktr_member | k_mem
  k_with "NT NTo" => assumption
  k_with "NT NTa" => first | assumption | omega | decide
  k_with "NT binaryOp LShift int int" => (refine lshift_int_small ?kb1 ?kb2 ?kb3 ?_; (case kb1 => walk_at "NTa"); (case kb2 => walk_at "NTa"); (case kb3 => walk_at "NTa"))
  k_with "NT binaryOp Pow int int" => (refine pow_int_small ?kb1 ?kb2 ?kb3 ?_; (case kb1 => walk_at "NTa"); (case kb2 => walk_at "NTa"); (case kb3 => walk_at "NTa"))
  k_with "NT binaryOp RShift int int" => (refine rshift_int ?kb1 ?_; (case kb1 => walk_at "NTa"))
  k_with "NT binaryOp FloorDiv int int" => (refine floordiv_int ?kb1 ?_ (Or.inl (PyProof.noPylong_small ?kb2)); (case kb1 => walk_at "NTa"); (case kb2 => walk_at "NTa"))
  k_with "NT binaryOp Mult int int" => (refine mul_int ?_ ?kb1; rotate_left; (case kb1 => first | exact mulSignOk _ _ | exact IntMulOk.of_left (intBits_le_64 (by walk_at "NTa") (by walk_at "NTa")) | exact IntMulOk.of_right (intBits_le_64 (by walk_at "NTa") (by walk_at "NTa"))))
  k_with "NT call ref" => (k_here; (with_reducible show wpAny _ _ (PySem.call (Value.ref 695) _ _) _ _ _); k_dflt (refine' Does.use (c_low _ _ _ _ _ ?ha ?hb) ?k1 ?k2 ?k3 ?k4 ?k5 ?kK ?kd ?ku ?_; (case k1 => k_asm); (case k2 => k_asm); (case k3 => k_asm); (case k4 => k_asm); (case k5 => k_asm); (case kK => first | exact rfl | assumption); (case kd => ktr_room); (case ku => ktr_units); (case ha => omega); (case hb => omega); intro r9 tl9 h9 tk9 F9 N9 ho9; obtain ⟨a9, p9, q9, u9, v9, e9, hm9, hp9, hq9⟩ := ho9; subst e9; subst hp9; subst hq9; (try dsimp only); (try k_fold)))
  k_with "NT call ref" => (k_here; (with_reducible show wpAny _ _ (PySem.call (Value.ref 96) _ _) _ _ _); k_dflt (refine' Does.use (c_Real _ _ _ _ _) ?k1 ?k2 ?k3 ?k4 ?k5 ?kK ?kd ?ku ?_; (case k1 => k_asm); (case k2 => k_asm); (case k3 => k_asm); (case k4 => k_asm); (case k5 => k_asm); (case kK => first | exact rfl | assumption); (case kd => ktr_room); (case ku => ktr_units);  intro r9 tl9 h9 tk9 F9 N9 ho9; (try dsimp only); (try k_fold)))
  k_with "NT call ref" => (k_here; (with_reducible show wpAny _ _ (PySem.call (Value.ref 264) _ _) _ _ _); k_dflt (refine' Does.use (c_Ratio _ _ _ _ _) ?k1 ?k2 ?k3 ?k4 ?k5 ?kK ?kd ?ku ?_; (case k1 => k_asm); (case k2 => k_asm); (case k3 => k_asm); (case k4 => k_asm); (case k5 => k_asm); (case kK => first | exact rfl | assumption); (case kd => ktr_room); (case ku => ktr_units);  intro r9 tl9 h9 tk9 F9 N9 ho9; (try dsimp only); (try k_fold)))
  k_with "NT call ref" => (k_here; (with_reducible show wpAny _ _ (PySem.call (Value.ref 107) _ _) _ _ _); k_dflt (refine' Does.use (c_size _ _ _) ?k1 ?k2 ?k3 ?k4 ?k5 ?kK ?kd ?ku ?_; (case k1 => k_asm); (case k2 => k_asm); (case k3 => k_asm); (case k4 => k_asm); (case k5 => k_asm); (case kK => first | exact rfl | assumption); (case kd => ktr_room); (case ku => ktr_units);  intro r9 tl9 h9 tk9 F9 N9 ho9; obtain ⟨u9, e9⟩ := ho9; subst e9; (try dsimp only); (try k_fold)))
  k_with "NT call ref" => (k_here; (with_reducible show wpAny _ _ (PySem.call (Value.ref 114) _ _) _ _ _); k_dflt (refine' Does.use (c_sow _ _ _) ?k1 ?k2 ?k3 ?k4 ?k5 ?kK ?kd ?ku ?_; (case k1 => k_asm); (case k2 => k_asm); (case k3 => k_asm); (case k4 => k_asm); (case k5 => k_asm); (case kK => first | exact rfl | assumption); (case kd => ktr_room); (case ku => ktr_units);  intro r9 tl9 h9 tk9 F9 N9 ho9; obtain ⟨u9, e9⟩ := ho9; subst e9; (try dsimp only); (try k_fold)))
  k_with "NT call ref" => (k_here; (with_reducible show wpAny _ _ (PySem.call (Value.ref 121) _ _) _ _ _); k_dflt (refine' Does.use (c_zeros _ _ _ _ _ ?ha) ?k1 ?k2 ?k3 ?k4 ?k5 ?kK ?kd ?ku ?_; (case k1 => k_asm); (case k2 => k_asm); (case k3 => k_asm); (case k4 => k_asm); (case k5 => k_asm); (case kK => first | exact rfl | assumption); (case kd => ktr_room); (case ku => ktr_units); (case ha => assumption); intro r9 tl9 h9 tk9 F9 N9 ho9; obtain ⟨u9, e9⟩ := ho9; subst e9; (try dsimp only); (try k_fold)))
  k_with "NT call ref" => (k_here; (with_reducible show wpAny _ _ (PySem.call (Value.ref 128) _ _) _ _ _); k_dflt (refine' Does.use (c_lean _ _ _ _ _ ?ha ?ha2 ?hb ?hc) ?k1 ?k2 ?k3 ?k4 ?k5 ?kK ?kd ?ku ?_; (case k1 => k_asm); (case k2 => k_asm); (case k3 => k_asm); (case k4 => k_asm); (case k5 => k_asm); (case kK => first | exact rfl | assumption); (case kd => ktr_room); (case ku => ktr_units); (case ha => first | (walk_at "NTa") | exact (signMul (by omega) (by omega)).1); (case ha2 => first | (walk_at "NTa") | exact (signMul (by omega) (by omega)).2); (case hb => (walk_at "NTa")); (case hc => (walk_at "NTa")); intro r9 tl9 h9 tk9 F9 N9 ho9; obtain ⟨m9, e9, hm9, hn9⟩ := ho9; (try dsimp only); (try k_fold)))
  k_with "NT call ref" => (k_here; (with_reducible show wpAny _ _ (PySem.call (Value.ref 135) _ _) _ _ _); k_dflt (refine' Does.use (c_nshift _ _ _ _ _ ?ha ?hb ?hc) ?k1 ?k2 ?k3 ?k4 ?k5 ?kK ?kd ?ku ?_; (case k1 => k_asm); (case k2 => k_asm); (case k3 => k_asm); (case k4 => k_asm); (case k5 => k_asm); (case kK => first | exact rfl | assumption); (case kd => ktr_room); (case ku => ktr_units); (case ha => (walk_at "NTa")); (case hb => (walk_at "NTa")); (case hc => (walk_at "NTa")); intro r9 tl9 h9 tk9 F9 N9 ho9; obtain ⟨R9, u9, e9, hR9, hlo9, hhi9⟩ := ho9; subst e9; (try dsimp only); (try k_fold)))
  k_with "NT call ref" => (k_here; (with_reducible show wpAny _ _ (PySem.call (Value.ref 149) _ _) _ _ _); k_dflt (refine' Does.use (c_sticky _ _ _ _ ?ha ?hb) ?k1 ?k2 ?k3 ?k4 ?k5 ?kK ?kd ?ku ?_; (case k1 => k_asm); (case k2 => k_asm); (case k3 => k_asm); (case k4 => k_asm); (case k5 => k_asm); (case kK => first | exact rfl | assumption); (case kd => ktr_room); (case ku => ktr_units); (case ha => (walk_at "NTa")); (case hb => (walk_at "NTa")); intro r9 tl9 h9 tk9 F9 N9 ho9; obtain ⟨u9, e9⟩ := ho9; subst e9; (try dsimp only); (try k_fold)))
  k_with "NT call ref" => (k_here; (with_reducible show wpAny _ _ (PySem.call (Value.ref 142) _ _) _ _ _); k_dflt (refine' Does.use (c_sround _ _ _ _ _ _ _ ?ha ?hb ?hc ?hd ?he ?hf) ?k1 ?k2 ?k3 ?k4 ?k5 ?kK ?kd ?ku ?_; (case k1 => k_asm); (case k2 => k_asm); (case k3 => k_asm); (case k4 => k_asm); (case k5 => k_asm); (case kK => first | exact rfl | assumption); (case kd => ktr_room); (case ku => ktr_units); (case ha => (walk_at "NTa")); (case hb => (walk_at "NTa")); (case hc => (walk_at "NTa")); (case hd => (walk_at "NTa")); (case he => (walk_at "NTa")); (case hf => (walk_at "NTa")); intro r9 tl9 h9 tk9 F9 N9 ho9; obtain ⟨R9, m9, e9, hm9, hR9, hn9⟩ := ho9; (try dsimp only); (try k_fold)))
  k_with "NT call ref" => (k_here; (with_reducible show wpAny _ _ (PySem.call (Value.ref 156) _ _) _ _ _); k_dflt (refine' Does.use (c_rounded _ _ _ _ _ _ _ ?ha ?hb ?hc ?hd ?he ?hf) ?k1 ?k2 ?k3 ?k4 ?k5 ?kK ?kd ?ku ?_; (case k1 => k_asm); (case k2 => k_asm); (case k3 => k_asm); (case k4 => k_asm); (case k5 => k_asm); (case kK => first | exact rfl | assumption); (case kd => ktr_room); (case ku => ktr_units); (case ha => (walk_at "NTa")); (case hb => (walk_at "NTa")); (case hc => (walk_at "NTa")); (case hd => (walk_at "NTa")); (case he => (walk_at "NTa")); (case hf => (walk_at "NTa")); intro r9 tl9 h9 tk9 F9 N9 ho9; obtain ⟨m9, e9, hm9, hs9⟩ := ho9; (try dsimp only); (try k_fold)))
  k_with "NT call ref" => (k_here; (with_reducible show wpAny _ _ (PySem.call (Value.ref 163) _ _) _ _ _); k_dflt (refine' Does.use (c_exparts _ _ _ _ ?ha ?hb ?hc ?hd ?he) ?k1 ?k2 ?k3 ?k4 ?k5 ?kK ?kd ?ku ?_; (case k1 => k_asm); (case k2 => k_asm); (case k3 => k_asm); (case k4 => k_asm); (case k5 => k_asm); (case kK => first | exact rfl | assumption); (case kd => ktr_room); (case ku => ktr_units); (case ha => (walk_at "NTn")); (case hb => (walk_at "NTa")); (case hc => (walk_at "NTa")); (case hd => (walk_at "NTa")); (case he => (walk_at "NTa")); intro r9 tl9 h9 tk9 F9 N9 ho9; obtain ⟨a9, p9, q9, u9, v9, e9, hm9, hp9, hq9⟩ := ho9; subst e9; subst hp9; subst hq9; (try dsimp only); (try k_fold)))
  k_with "NT call ref" => (k_here; (with_reducible show wpAny _ _ (PySem.call (Value.ref 170) _ _) _ _ _); k_dflt (refine' Does.use (c_place _ _ _ _ ?ha) ?k1 ?k2 ?k3 ?k4 ?k5 ?kK ?kd ?ku ?_; (case k1 => k_asm); (case k2 => k_asm); (case k3 => k_asm); (case k4 => k_asm); (case k5 => k_asm); (case kK => first | exact rfl | assumption); (case kd => ktr_room); (case ku => ktr_units); (case ha => (walk_at "NTn")); intro r9 tl9 h9 tk9 F9 N9 ho9; obtain ⟨u9, e9⟩ := ho9; subst e9; (try dsimp only); (try k_fold)))
  k_with "NT call ref" => (k_here; (with_reducible show wpAny _ _ (PySem.call (Value.ref 177) _ _) _ _ _); k_dflt (refine' Does.use (c_signof _ _ _ _ ?ha) ?k1 ?k2 ?k3 ?k4 ?k5 ?kK ?kd ?ku ?_; (case k1 => k_asm); (case k2 => k_asm); (case k3 => k_asm); (case k4 => k_asm); (case k5 => k_asm); (case kK => first | exact rfl | assumption); (case kd => ktr_room); (case ku => ktr_units); (case ha => (walk_at "NTn")); intro r9 tl9 h9 tk9 F9 N9 ho9; obtain ⟨u9, e9⟩ := ho9; subst e9; (try dsimp only); (try k_fold)))
  k_with "NT call ref" => (k_here; (with_reducible show wpAny _ _ (PySem.call (Value.ref 184) _ _) _ _ _); k_dflt (refine' Does.use (c_negative _ _ _ _ ?ha) ?k1 ?k2 ?k3 ?k4 ?k5 ?kK ?kd ?ku ?_; (case k1 => k_asm); (case k2 => k_asm); (case k3 => k_asm); (case k4 => k_asm); (case k5 => k_asm); (case kK => first | exact rfl | assumption); (case kd => ktr_room); (case ku => ktr_units); (case ha => (walk_at "NTn")); intro r9 tl9 h9 tk9 F9 N9 ho9; (try dsimp only); (try k_fold)))
  k_with "NT call ref" => (k_here; (with_reducible show wpAny _ _ (PySem.call (Value.ref 191) _ _) _ _ _); k_dflt (refine' Does.use (c_magnitude _ _ _ _ ?ha) ?k1 ?k2 ?k3 ?k4 ?k5 ?kK ?kd ?ku ?_; (case k1 => k_asm); (case k2 => k_asm); (case k3 => k_asm); (case k4 => k_asm); (case k5 => k_asm); (case kK => first | exact rfl | assumption); (case kd => ktr_room); (case ku => ktr_units); (case ha => (walk_at "NTn")); intro r9 tl9 h9 tk9 F9 N9 ho9; (try dsimp only); (try k_fold)))
  k_with "NT call ref" => (k_here; (with_reducible show wpAny _ _ (PySem.call (Value.ref 198) _ _) _ _ _); k_dflt (refine' Does.use (c_same _ _ _ _ _ _ _ ?ha ?hb) ?k1 ?k2 ?k3 ?k4 ?k5 ?kK ?kd ?ku ?_; (case k1 => k_asm); (case k2 => k_asm); (case k3 => k_asm); (case k4 => k_asm); (case k5 => k_asm); (case kK => first | exact rfl | assumption); (case kd => ktr_room); (case ku => ktr_units); (case ha => (walk_at "NTn")); (case hb => (walk_at "NTn")); intro r9 tl9 h9 tk9 F9 N9 ho9; (have e9 : _ = _ := ho9); clear ho9; subst e9; (try dsimp only); (try k_fold)))
  k_with "NT call ref" => (k_here; (with_reducible show wpAny _ _ (PySem.call (Value.ref 205) _ _) _ _ _); k_dflt (refine' Does.use (c_cmpmag _ _ _ _ _ _ _ ?ha ?hb ?hc ?hd ?he ?hf ?hg ?hh ?hi ?hj) ?k1 ?k2 ?k3 ?k4 ?k5 ?kK ?kd ?ku ?_; (case k1 => k_asm); (case k2 => k_asm); (case k3 => k_asm); (case k4 => k_asm); (case k5 => k_asm); (case kK => first | exact rfl | assumption); (case kd => ktr_room); (case ku => ktr_units); (case ha => (walk_at "NTn")); (case hb => (walk_at "NTn")); (case hc => (walk_at "NTa")); (case hd => (walk_at "NTa")); (case he => (walk_at "NTa")); (case hf => (walk_at "NTa")); (case hg => (walk_at "NTa")); (case hh => (walk_at "NTa")); (case hi => (walk_at "NTa")); (case hj => (walk_at "NTa")); intro r9 tl9 h9 tk9 F9 N9 ho9; obtain ⟨u9, e9⟩ := ho9; subst e9; (try dsimp only); (try k_fold)))
  k_with "NT call ref" => (k_here; (with_reducible show wpAny _ _ (PySem.call (Value.ref 212) _ _) _ _ _); k_dflt (refine' Does.use (c_cmpreals _ _ _ _ _ _ _ ?ha ?hb ?hc ?hd ?he ?hf ?hg ?hh ?hi ?hj) ?k1 ?k2 ?k3 ?k4 ?k5 ?kK ?kd ?ku ?_; (case k1 => k_asm); (case k2 => k_asm); (case k3 => k_asm); (case k4 => k_asm); (case k5 => k_asm); (case kK => first | exact rfl | assumption); (case kd => ktr_room); (case ku => ktr_units); (case ha => (walk_at "NTn")); (case hb => (walk_at "NTn")); (case hc => (walk_at "NTa")); (case hd => (walk_at "NTa")); (case he => (walk_at "NTa")); (case hf => (walk_at "NTa")); (case hg => (walk_at "NTa")); (case hh => (walk_at "NTa")); (case hi => (walk_at "NTa")); (case hj => (walk_at "NTa")); intro r9 tl9 h9 tk9 F9 N9 ho9; obtain ⟨u9, e9⟩ := ho9; subst e9; (try dsimp only); (try k_fold)))
  k_with "NT call ref" => (k_here; (with_reducible show wpAny _ _ (PySem.call (Value.ref 219) _ _) _ _ _); k_dflt (refine' Does.use (c_fullm _ _ _ _ _ _ ?ha ?hb ?hc ?hd ?he) ?k1 ?k2 ?k3 ?k4 ?k5 ?kK ?kd ?ku ?_; (case k1 => k_asm); (case k2 => k_asm); (case k3 => k_asm); (case k4 => k_asm); (case k5 => k_asm); (case kK => first | exact rfl | assumption); (case kd => ktr_room); (case ku => ktr_units); (case ha => (walk_at "NTn")); (case hb => (walk_at "NTa")); (case hc => (walk_at "NTa")); (case hd => (walk_at "NTa")); (case he => (walk_at "NTa")); intro r9 tl9 h9 tk9 F9 N9 ho9; obtain ⟨a9, P9, u9, v9, e9, hm9, hP9⟩ := ho9; subst e9; subst hP9; (try dsimp only); (try k_fold)))
  k_with "NT call ref" => (k_here; (with_reducible show wpAny _ _ (PySem.call (Value.ref 226) _ _) _ _ _); k_dflt (refine' Does.use (c_farther _ _ _ _ _ _ ?ha ?hb ?hc ?hd ?he ?hf ?hg ?hh ?hi) ?k1 ?k2 ?k3 ?k4 ?k5 ?kK ?kd ?ku ?_; (case k1 => k_asm); (case k2 => k_asm); (case k3 => k_asm); (case k4 => k_asm); (case k5 => k_asm); (case kK => first | exact rfl | assumption); (case kd => ktr_room); (case ku => ktr_units); (case ha => (walk_at "NTn")); (case hb => (walk_at "NTa")); (case hc => (walk_at "NTa")); (case hd => (walk_at "NTa")); (case he => (walk_at "NTa")); (case hf => (walk_at "NTa")); (case hg => (walk_at "NTa")); (case hh => (walk_at "NTa")); (case hi => (walk_at "NTa")); intro r9 tl9 h9 tk9 F9 N9 ho9; obtain ⟨m9, e9, hm9, hn9⟩ := ho9; (try dsimp only); (try k_fold)))
  k_with "NT call ref" => (k_here; (with_reducible show wpAny _ _ (PySem.call (Value.ref 233) _ _) _ _ _); k_dflt (refine' Does.use (c_nearer _ _ _ _ _ _ ?ha ?hb ?hc ?hd ?he ?hf ?hg ?hh ?hi) ?k1 ?k2 ?k3 ?k4 ?k5 ?kK ?kd ?ku ?_; (case k1 => k_asm); (case k2 => k_asm); (case k3 => k_asm); (case k4 => k_asm); (case k5 => k_asm); (case kK => first | exact rfl | assumption); (case kd => ktr_room); (case ku => ktr_units); (case ha => (walk_at "NTn")); (case hb => (walk_at "NTa")); (case hc => (walk_at "NTa")); (case hd => (walk_at "NTa")); (case he => (walk_at "NTa")); (case hf => (walk_at "NTa")); (case hg => (walk_at "NTa")); (case hh => (walk_at "NTa")); (case hi => (walk_at "NTa")); intro r9 tl9 h9 tk9 F9 N9 ho9; obtain ⟨m9, e9, hm9, hn9⟩ := ho9; (try dsimp only); (try k_fold)))
  k_with "NT call ref" => (k_here; (with_reducible show wpAny _ _ (PySem.call (Value.ref 240) _ _) _ _ _); k_dflt (refine' Does.use (c_above _ _ _ _ _ _ ?ha ?hb ?hc ?hd ?he ?hf ?hg ?hh ?hi) ?k1 ?k2 ?k3 ?k4 ?k5 ?kK ?kd ?ku ?_; (case k1 => k_asm); (case k2 => k_asm); (case k3 => k_asm); (case k4 => k_asm); (case k5 => k_asm); (case kK => first | exact rfl | assumption); (case kd => ktr_room); (case ku => ktr_units); (case ha => (walk_at "NTn")); (case hb => (walk_at "NTa")); (case hc => (walk_at "NTa")); (case hd => (walk_at "NTa")); (case he => (walk_at "NTa")); (case hf => (walk_at "NTa")); (case hg => (walk_at "NTa")); (case hh => (walk_at "NTa")); (case hi => (walk_at "NTa")); intro r9 tl9 h9 tk9 F9 N9 ho9; obtain ⟨m9, e9, hm9, hn9⟩ := ho9; (try dsimp only); (try k_fold)))
  k_with "NT call ref" => (k_here; (with_reducible show wpAny _ _ (PySem.call (Value.ref 247) _ _) _ _ _); k_dflt (refine' Does.use (c_below _ _ _ _ _ _ ?ha ?hb ?hc ?hd ?he ?hf ?hg ?hh ?hi) ?k1 ?k2 ?k3 ?k4 ?k5 ?kK ?kd ?ku ?_; (case k1 => k_asm); (case k2 => k_asm); (case k3 => k_asm); (case k4 => k_asm); (case k5 => k_asm); (case kK => first | exact rfl | assumption); (case kd => ktr_room); (case ku => ktr_units); (case ha => (walk_at "NTn")); (case hb => (walk_at "NTa")); (case hc => (walk_at "NTa")); (case hd => (walk_at "NTa")); (case he => (walk_at "NTa")); (case hf => (walk_at "NTa")); (case hg => (walk_at "NTa")); (case hh => (walk_at "NTa")); (case hi => (walk_at "NTa")); intro r9 tl9 h9 tk9 F9 N9 ho9; obtain ⟨m9, e9, hm9, hn9⟩ := ho9; (try dsimp only); (try k_fold)))
  k_with "NT call builtin:isinstance" => (k_here; (with_reducible show wpAny _ _ (PySem.call (Value.builtin "isinstance") [_, Value.ref 96]) _ _ _); k_dflt (refine' isi_num ?k1 ?k2 ?k3 ?k4 ?k5 ?_; (case k1 => k_asm); (case k2 => k_asm); (case k3 => k_asm); (case k4 => walk_at "NTn"); (case k5 => first | assumption | exact rfl); k_whole; intro tk9; (try dsimp only [Num.isReal])))
  k_with "NT call ref" => (k_here; (with_reducible show wpAny _ _ (PySem.call (Value.ref 345) _ _) _ _ _); k_dflt (refine' Does.use (c_isinexact _ _ _ ?ha) ?k1 ?k2 ?k3 ?k4 ?k5 ?kK ?kd ?ku ?_; (case k1 => k_asm); (case k2 => k_asm); (case k3 => k_asm); (case k4 => k_asm); (case k5 => k_asm); (case kK => first | exact rfl | assumption); (case kd => ktr_room); (case ku => ktr_units); (case ha => (walk_at "NTn")); intro r9 tl9 h9 tk9 F9 N9 ho9; (have e9 : _ = _ := ho9); clear ho9; subst e9; (try dsimp only); (try k_fold)))
  k_with "NT call ref" => (k_here; (with_reducible show wpAny _ _ (PySem.call (Value.ref 282) _ _) _ _ _); k_dflt (refine' Does.use (c_isexact _ _ _ ?ha) ?k1 ?k2 ?k3 ?k4 ?k5 ?kK ?kd ?ku ?_; (case k1 => k_asm); (case k2 => k_asm); (case k3 => k_asm); (case k4 => k_asm); (case k5 => k_asm); (case kK => first | exact rfl | assumption); (case kd => ktr_room); (case ku => ktr_units); (case ha => (walk_at "NTn")); intro r9 tl9 h9 tk9 F9 N9 ho9; (have e9 : _ = _ := ho9); clear ho9; subst e9; (try dsimp only); (try k_fold)))
  k_with "NT call ref" => (k_here; (with_reducible show wpAny _ _ (PySem.call (Value.ref 289) _ _) _ _ _); k_dflt (refine' Does.use (c_topof _ _ _ ?ha ?hb) ?k1 ?k2 ?k3 ?k4 ?k5 ?kK ?kd ?ku ?_; (case k1 => k_asm); (case k2 => k_asm); (case k3 => k_asm); (case k4 => k_asm); (case k5 => k_asm); (case kK => first | exact rfl | assumption); (case kd => ktr_room); (case ku => ktr_units); (case ha => (walk_at "NTn")); (case hb => first | assumption | rfl); intro r9 tl9 h9 tk9 F9 N9 ho9; obtain ⟨u9, e9⟩ := ho9; subst e9; (try dsimp only); (try k_fold)))
  k_with "NT call ref" => (k_here; (with_reducible show wpAny _ _ (PySem.call (Value.ref 296) _ _) _ _ _); k_dflt (refine' Does.use (c_bottomof _ _ _ ?ha ?hb) ?k1 ?k2 ?k3 ?k4 ?k5 ?kK ?kd ?ku ?_; (case k1 => k_asm); (case k2 => k_asm); (case k3 => k_asm); (case k4 => k_asm); (case k5 => k_asm); (case kK => first | exact rfl | assumption); (case kd => ktr_room); (case ku => ktr_units); (case ha => (walk_at "NTn")); (case hb => first | assumption | rfl); intro r9 tl9 h9 tk9 F9 N9 ho9; obtain ⟨u9, e9⟩ := ho9; subst e9; (try dsimp only); (try k_fold)))
  k_with "NT call ref" => (k_here; (with_reducible show wpAny _ _ (PySem.call (Value.ref 177) _ _) _ _ _); k_dflt (refine' Does.use (c_signof' _ _ _ ?ha ?hb) ?k1 ?k2 ?k3 ?k4 ?k5 ?kK ?kd ?ku ?_; (case k1 => k_asm); (case k2 => k_asm); (case k3 => k_asm); (case k4 => k_asm); (case k5 => k_asm); (case kK => first | exact rfl | assumption); (case kd => ktr_room); (case ku => ktr_units); (case ha => (walk_at "NTn")); (case hb => first | assumption | rfl); intro r9 tl9 h9 tk9 F9 N9 ho9; obtain ⟨u9, e9⟩ := ho9; subst e9; (try dsimp only); (try k_fold)))
  k_with "NT call ref" => (k_here; (with_reducible show wpAny _ _ (PySem.call (Value.ref 212) _ _) _ _ _); k_dflt (refine' Does.use (c_cmpreals' _ _ _ _ _ _ ?ha ?hb ?hc ?hd ?he ?hf ?hg) ?k1 ?k2 ?k3 ?k4 ?k5 ?kK ?kd ?ku ?_; (case k1 => k_asm); (case k2 => k_asm); (case k3 => k_asm); (case k4 => k_asm); (case k5 => k_asm); (case kK => first | exact rfl | assumption); (case kd => ktr_room); (case ku => ktr_units); (case ha => (walk_at "NTn")); (case hb => (walk_at "NTn")); (case hc => first | assumption | rfl); (case hd => first | assumption | rfl); (case he => (walk_at "NTa")); (case hf => (walk_at "NTo")); (case hg => (walk_at "NTo")); intro r9 tl9 h9 tk9 F9 N9 ho9; obtain ⟨u9, e9⟩ := ho9; subst e9; (try dsimp only); (try k_fold)))
  k_with "NT call ref" => (k_here; (with_reducible show wpAny _ _ (PySem.call (Value.ref 198) _ _) _ _ _); k_dflt (refine' Does.use (c_same' _ _ _ _ _ _ ?ha ?hb ?hc ?hd ?hf ?hg) ?k1 ?k2 ?k3 ?k4 ?k5 ?kK ?kd ?ku ?_; (case k1 => k_asm); (case k2 => k_asm); (case k3 => k_asm); (case k4 => k_asm); (case k5 => k_asm); (case kK => first | exact rfl | assumption); (case kd => ktr_room); (case ku => ktr_units); (case ha => (walk_at "NTn")); (case hb => (walk_at "NTn")); (case hc => first | assumption | rfl); (case hd => first | assumption | rfl); (case hf => (walk_at "NTo")); (case hg => (walk_at "NTo")); intro r9 tl9 h9 tk9 F9 N9 ho9; (have e9 : _ = _ := ho9); clear ho9; subst e9; (try dsimp only); (try k_fold)))
  k_with "NT call ref" => (k_here; (with_reducible show wpAny _ _ (PySem.call (Value.ref 163) _ _) _ _ _); k_dflt (refine' Does.use (c_exparts' _ _ _ _ ?ha ?hb ?hc ?hd) ?k1 ?k2 ?k3 ?k4 ?k5 ?kK ?kd ?ku ?_; (case k1 => k_asm); (case k2 => k_asm); (case k3 => k_asm); (case k4 => k_asm); (case k5 => k_asm); (case kK => first | exact rfl | assumption); (case kd => ktr_room); (case ku => ktr_units); (case ha => (walk_at "NTn")); (case hb => first | assumption | rfl); (case hc => (walk_at "NTa")); (case hd => (walk_at "NTo")); intro r9 tl9 h9 tk9 F9 N9 ho9; obtain ⟨a9, p9, q9, u9, v9, e9, hm9, hp9, hq9⟩ := ho9; subst e9; subst hp9; subst hq9; (try dsimp only); (try k_fold)))
  k_with "NT call ref" => (k_here; (with_reducible show wpAny _ _ (PySem.call (Value.ref 352) _ _) _ _ _); k_dflt (refine' Does.use (c_sign _ _ _ ?ha) ?k1 ?k2 ?k3 ?k4 ?k5 ?kK ?kd ?ku ?_; (case k1 => k_asm); (case k2 => k_asm); (case k3 => k_asm); (case k4 => k_asm); (case k5 => k_asm); (case kK => first | exact rfl | assumption); (case kd => ktr_room); (case ku => ktr_units); (case ha => (walk_at "NTn")); intro r9 tl9 h9 tk9 F9 N9 ho9; obtain ⟨u9, e9⟩ := ho9; subst e9; (try dsimp only); (try k_fold)))
  k_with "NT call ref" => (k_here; (with_reducible show wpAny _ _ (PySem.call (Value.ref 331) _ _) _ _ _); k_dflt (refine' Does.use (c_cmpexact _ _ _ _ _ ?ha ?hb ?hc ?hd ?he ?hf ?hg ?hh) ?k1 ?k2 ?k3 ?k4 ?k5 ?kK ?kd ?ku ?_; (case k1 => k_asm); (case k2 => k_asm); (case k3 => k_asm); (case k4 => k_asm); (case k5 => k_asm); (case kK => first | exact rfl | assumption); (case kd => ktr_room); (case ku => ktr_units); (case ha => (walk_at "NTn")); (case hb => (walk_at "NTn")); (case hc => first | assumption | rfl | exact ex_isReal _); (case hd => first | assumption | rfl | exact ex_isReal _); (case he => (walk_at "NTa")); (case hf => (walk_at "NTa")); (case hg => (walk_at "NTa")); (case hh => (walk_at "NTa")); intro r9 tl9 h9 tk9 F9 N9 ho9; obtain ⟨u9, e9⟩ := ho9; subst e9; (try dsimp only); (try k_fold)))
  k_with "NT call ref" => (k_here; (with_reducible show wpAny _ _ (PySem.call (Value.ref 338) _ _) _ _ _); k_dflt (refine' Does.use (c_eqexact _ _ _ _ _ _ ?ha ?hb ?hc ?hd ?hf ?hg) ?k1 ?k2 ?k3 ?k4 ?k5 ?kK ?kd ?ku ?_; (case k1 => k_asm); (case k2 => k_asm); (case k3 => k_asm); (case k4 => k_asm); (case k5 => k_asm); (case kK => first | exact rfl | assumption); (case kd => ktr_room); (case ku => ktr_units); (case ha => (walk_at "NTn")); (case hb => (walk_at "NTn")); (case hc => first | assumption | rfl); (case hd => first | assumption | rfl); (case hf => (walk_at "NTo")); (case hg => (walk_at "NTo")); intro r9 tl9 h9 tk9 F9 N9 ho9; (have e9 : _ = _ := ho9); clear ho9; subst e9; (try dsimp only); (try k_fold)))
  k_with "NT call ref" => (k_here; (with_reducible show wpAny _ _ (PySem.call (Value.ref 303) _ _) _ _ _); k_dflt (refine' Does.use (c_gcdof _ _ _ _ _) ?k1 ?k2 ?k3 ?k4 ?k5 ?kK ?kd ?ku ?_; (case k1 => k_asm); (case k2 => k_asm); (case k3 => k_asm); (case k4 => k_asm); (case k5 => k_asm); (case kK => first | exact rfl | assumption); (case kd => ktr_room); (case ku => ktr_units);  intro r9 tl9 h9 tk9 F9 N9 ho9; obtain ⟨u9, e9⟩ := ho9; subst e9; (try dsimp only); (try k_fold)))
  k_with "NT call ref" => (k_here; (with_reducible show wpAny _ _ (PySem.call (Value.ref 317) _ _) _ _ _); k_dflt (refine' Does.use (c_ratioof _ _ _ _ _ ?ha ?hb) ?k1 ?k2 ?k3 ?k4 ?k5 ?kK ?kd ?ku ?_; (case k1 => k_asm); (case k2 => k_asm); (case k3 => k_asm); (case k4 => k_asm); (case k5 => k_asm); (case kK => first | exact rfl | assumption); (case kd => ktr_room); (case ku => ktr_units); (case ha => (walk_at "NTa")); (case hb => (walk_at "NTa")); intro r9 tl9 h9 tk9 F9 N9 ho9; (try dsimp only); (try k_fold)))
  k_with "NT call ref" => (k_here; (with_reducible show wpAny _ _ (PySem.call (Value.ref 359) _ _) _ _ _); k_dflt (refine' Does.use (c_toexact _ _ _ _ ?ha ?hb ?hc) ?k1 ?k2 ?k3 ?k4 ?k5 ?kK ?kd ?ku ?_; (case k1 => k_asm); (case k2 => k_asm); (case k3 => k_asm); (case k4 => k_asm); (case k5 => k_asm); (case kK => first | exact rfl | assumption); (case kd => ktr_room); (case ku => ktr_units); (case ha => (walk_at "NTn")); (case hb => (walk_at "NTa")); (case hc => (walk_at "NTo")); intro r9 tl9 h9 tk9 F9 N9 ho9; (try dsimp only); (try k_fold)))
  k_with "NT call ref" => (k_here; (with_reducible show wpAny _ _ (PySem.call (Value.ref 366) _ _) _ _ _); k_dflt (refine' Does.use (c_toinexact _ _ _ _ _ ?ha ?hb ?hc ?hd) ?k1 ?k2 ?k3 ?k4 ?k5 ?kK ?kd ?ku ?_; (case k1 => k_asm); (case k2 => k_asm); (case k3 => k_asm); (case k4 => k_asm); (case k5 => k_asm); (case kK => first | exact rfl | assumption); (case kd => ktr_room); (case ku => ktr_units); (case ha => (walk_at "NTn")); (case hb => (walk_at "NTa")); (case hc => (walk_at "NTa")); (case hd => (walk_at "NTo")); intro r9 tl9 h9 tk9 F9 N9 ho9; obtain ⟨m9, e9, hm9, hs9, ho9⟩ := ho9; (try dsimp only); (try k_fold)))
  k_with "NT call ref" => (k_here; (with_reducible show wpAny _ _ (PySem.call (Value.ref 387) _ _) _ _ _); k_dflt (refine' Does.use (c_compare _ _ _ _ _ _ ?ha ?hb ?hc ?hd ?he) ?k1 ?k2 ?k3 ?k4 ?k5 ?kK ?kd ?ku ?_; (case k1 => k_asm); (case k2 => k_asm); (case k3 => k_asm); (case k4 => k_asm); (case k5 => k_asm); (case kK => first | exact rfl | assumption); (case kd => ktr_room); (case ku => ktr_units); (case ha => (walk_at "NTn")); (case hb => (walk_at "NTn")); (case hc => (walk_at "NTa")); (case hd => (walk_at "NTo")); (case he => (walk_at "NTo")); intro r9 tl9 h9 tk9 F9 N9 ho9; obtain ⟨u9, e9⟩ := ho9; subst e9; (try dsimp only); (try k_fold)))
  k_with "NT call ref" => (k_here; (with_reducible show wpAny _ _ (PySem.call (Value.ref 394) _ _) _ _ _); k_dflt (refine' Does.use (c_samenum _ _ _ _ _ _ ?ha ?hb ?hc ?hd) ?k1 ?k2 ?k3 ?k4 ?k5 ?kK ?kd ?ku ?_; (case k1 => k_asm); (case k2 => k_asm); (case k3 => k_asm); (case k4 => k_asm); (case k5 => k_asm); (case kK => first | exact rfl | assumption); (case kd => ktr_room); (case ku => ktr_units); (case ha => (walk_at "NTn")); (case hb => (walk_at "NTn")); (case hc => (walk_at "NTo")); (case hd => (walk_at "NTo")); intro r9 tl9 h9 tk9 F9 N9 ho9; (have e9 : _ = _ := ho9); clear ho9; subst e9; (try dsimp only); (try k_fold)))
  k_with "NT call ref" => (k_here; (with_reducible show wpAny _ _ (PySem.call (Value.ref 373) _ _) _ _ _); k_dflt (refine' Does.use (c_hasinexact _ _ _ _ _ _ ?hl ?ha ?hb) ?k1 ?k2 ?k3 ?k4 ?k5 ?kK ?kd ?ku ?_; (case k1 => k_asm); (case k2 => k_asm); (case k3 => k_asm); (case k4 => k_asm); (case k5 => k_asm); (case kK => first | exact rfl | assumption); (case kd => ktr_room); (case ku => ktr_units); (case hl => walk_at "NTm"); (case ha => (walk_at "NTn")); (case hb => (walk_at "NTn")); intro r9 tl9 h9 tk9 F9 N9 ho9; (have e9 : _ = _ := ho9); clear ho9; subst e9; (try dsimp only); (try k_fold)))
  k_with "NT call ref" => (k_here; (with_reducible show wpAny _ _ (PySem.call (Value.ref 380) _ _) _ _ _); k_dflt (refine' Does.use (c_asof _ _ _ _ _ _ _ _ _ _ ?hl ?ha ?hb ?hc ?hd ?he ?hf) ?k1 ?k2 ?k3 ?k4 ?k5 ?kK ?kd ?ku ?_; (case k1 => k_asm); (case k2 => k_asm); (case k3 => k_asm); (case k4 => k_asm); (case k5 => k_asm); (case kK => first | exact rfl | assumption); (case kd => ktr_room); (case ku => ktr_units); (case hl => walk_at "NTm"); (case ha => (walk_at "NTn")); (case hb => (walk_at "NTn")); (case hc => (walk_at "NTn")); (case hd => (walk_at "NTa")); (case he => (walk_at "NTa")); (case hf => (walk_at "NTo")); intro r9 tl9 h9 tk9 F9 N9 ho9; obtain ⟨z9, hz9, hk9⟩ := ho9; (try dsimp only); (try k_fold)))
  k_with "NT call ref" => (k_here; (with_reducible show wpAny _ _ (PySem.call (Value.ref 583) _ _) _ _ _); k_dflt (refine' Does.use (c_greatest _ _ _ _ _ _ _ _ ?ht ?hl ?ha ?hb ?hc ?hd ?he ?hf) ?k1 ?k2 ?k3 ?k4 ?k5 ?kK ?kd ?ku ?_; (case k1 => k_asm); (case k2 => k_asm); (case k3 => k_asm); (case k4 => k_asm); (case k5 => k_asm); (case kK => first | exact rfl | assumption); (case kd => ktr_room); (case ku => ktr_units); (case ht => walk_at "NTt"); (case hl => walk_at "NTm"); (case ha => (walk_at "NTn")); (case hb => (walk_at "NTn")); (case hc => (walk_at "NTa")); (case hd => (walk_at "NTa")); (case he => (walk_at "NTo")); (case hf => (walk_at "NTo")); intro r9 tl9 h9 tk9 F9 N9 ho9; obtain ⟨z9, hz9, hk9⟩ := ho9; (try dsimp only); (try k_fold)))
  k_with "NT call ref" => (k_here; (with_reducible show wpAny _ _ (PySem.call (Value.ref 590) _ _) _ _ _); k_dflt (refine' Does.use (c_least _ _ _ _ _ _ _ _ ?ht ?hl ?ha ?hb ?hc ?hd ?he ?hf) ?k1 ?k2 ?k3 ?k4 ?k5 ?kK ?kd ?ku ?_; (case k1 => k_asm); (case k2 => k_asm); (case k3 => k_asm); (case k4 => k_asm); (case k5 => k_asm); (case kK => first | exact rfl | assumption); (case kd => ktr_room); (case ku => ktr_units); (case ht => walk_at "NTt"); (case hl => walk_at "NTm"); (case ha => (walk_at "NTn")); (case hb => (walk_at "NTn")); (case hc => (walk_at "NTa")); (case hd => (walk_at "NTa")); (case he => (walk_at "NTo")); (case hf => (walk_at "NTo")); intro r9 tl9 h9 tk9 F9 N9 ho9; obtain ⟨z9, hz9, hk9⟩ := ho9; (try dsimp only); (try k_fold)))
  k_with "NT call ref" => (k_here; (with_reducible show wpAny _ _ (PySem.call (Value.ref 716) _ _) _ _ _); k_dflt (refine' Does.use (c_lfrac _ _ _ _ ?ha ?hb ?hc) ?k1 ?k2 ?k3 ?k4 ?k5 ?kK ?kd ?ku ?_; (case k1 => k_asm); (case k2 => k_asm); (case k3 => k_asm); (case k4 => k_asm); (case k5 => k_asm); (case kK => first | exact rfl | assumption); (case kd => ktr_room); (case ku => ktr_units); (case ha => (walk_at "NTn")); (case hb => (walk_at "NTa")); (case hc => (walk_at "NTo")); intro r9 tl9 h9 tk9 F9 N9 ho9; obtain ⟨a9, s9, q9, u9, w9, e9, hm9, hp9, hq9⟩ := ho9; subst e9; subst hp9; subst hq9; (try dsimp only); (try k_fold)))
  k_with "NT call ref" => (k_here; (with_reducible show wpAny _ _ (PySem.call (Value.ref 737) _ _) _ _ _); k_dflt (refine' Does.use (c_lless _ _ _ _ _ _ ?ha ?hb ?hc ?hd ?he) ?k1 ?k2 ?k3 ?k4 ?k5 ?kK ?kd ?ku ?_; (case k1 => k_asm); (case k2 => k_asm); (case k3 => k_asm); (case k4 => k_asm); (case k5 => k_asm); (case kK => first | exact rfl | assumption); (case kd => ktr_room); (case ku => ktr_units); (case ha => (walk_at "NTn")); (case hb => (walk_at "NTn")); (case hc => (walk_at "NTa")); (case hd => (walk_at "NTo")); (case he => (walk_at "NTo")); intro r9 tl9 h9 tk9 F9 N9 ho9; obtain ⟨u9, e9⟩ := ho9; subst e9; (try dsimp only); (try k_fold)))
  k_with "NT call ref" => (k_here; (with_reducible show wpAny _ _ (PySem.call (Value.ref 723) _ _) _ _ _); k_dflt (refine' Does.use (c_lshownR _ _ _ _ ?ha) ?k1 ?k2 ?k3 ?k4 ?k5 ?kK ?kd ?ku ?_; (case k1 => k_asm); (case k2 => k_asm); (case k3 => k_asm); (case k4 => k_asm); (case k5 => k_asm); (case kK => first | exact rfl | assumption); (case kd => ktr_room); (case ku => ktr_units); (case ha => (walk_at "NTn")); intro r9 tl9 h9 tk9 F9 N9 ho9; obtain ⟨a9, u9, v9, w9, e9, hm9⟩ := ho9; subst e9; (try dsimp only); (try k_fold)))
  k_with "NT call ref" => (k_here; (with_reducible show wpAny _ _ (PySem.call (Value.ref 723) _ _) _ _ _); k_dflt (refine' Does.use (c_lshownE _ _ _ ?ha ?hb) ?k1 ?k2 ?k3 ?k4 ?k5 ?kK ?kd ?ku ?_; (case k1 => k_asm); (case k2 => k_asm); (case k3 => k_asm); (case k4 => k_asm); (case k5 => k_asm); (case kK => first | exact rfl | assumption); (case kd => ktr_room); (case ku => ktr_units); (case ha => (walk_at "NTn")); (case hb => first | assumption | exact ex_isReal _ | rfl); intro r9 tl9 h9 tk9 F9 N9 ho9; obtain ⟨a9, u9, v9, w9, e9, hm9⟩ := ho9; subst e9; (try dsimp only); (try k_fold)))
  k_with "NT call ref" => (k_here; (with_reducible show wpAny _ _ (PySem.call (Value.ref 709) _ _) _ _ _); k_dflt (refine' Does.use (c_lreal _ _ _ _ _) ?k1 ?k2 ?k3 ?k4 ?k5 ?kK ?kd ?ku ?_; (case k1 => k_asm); (case k2 => k_asm); (case k3 => k_asm); (case k4 => k_asm); (case k5 => k_asm); (case kK => first | exact rfl | assumption); (case kd => ktr_room); (case ku => ktr_units);  intro r9 tl9 h9 tk9 F9 N9 ho9; obtain ⟨m9, e9, hm9, hn9⟩ := ho9; (try dsimp only); (try k_fold)))
  k_with "NT call ref" => (k_here; (with_reducible show wpAny _ _ (PySem.call (Value.ref 702) _ _) _ _ _); k_dflt (refine' Does.use (c_lnear _ _ _ _ _ _ _ ?ha ?hb ?hc ?hd ?he ?hf) ?k1 ?k2 ?k3 ?k4 ?k5 ?kK ?kd ?ku ?_; (case k1 => k_asm); (case k2 => k_asm); (case k3 => k_asm); (case k4 => k_asm); (case k5 => k_asm); (case kK => first | exact rfl | assumption); (case kd => ktr_room); (case ku => ktr_units); (case ha => (walk_at "NTa")); (case hb => (walk_at "NTa")); (case hc => (walk_at "NTa")); (case hd => (walk_at "NTa")); (case he => (walk_at "NTa")); (case hf => (walk_at "NTa")); intro r9 tl9 h9 tk9 F9 N9 ho9; obtain ⟨a9, m9, e9, u9, w9, q9, hm9, hs9⟩ := ho9; subst q9; (try dsimp only); (try k_fold)))
  k_with "NT call ref" => (k_here; (with_reducible show wpAny _ _ (PySem.call (Value.ref 744) _ _) _ _ _); k_dflt (refine' Does.use (c_lnext _ _ _ _ _ _ _ _ ?ha ?hb ?hc ?hd ?he ?hf ?hg ?hh ?hi ?hj) ?k1 ?k2 ?k3 ?k4 ?k5 ?kK ?kd ?ku ?_; (case k1 => k_asm); (case k2 => k_asm); (case k3 => k_asm); (case k4 => k_asm); (case k5 => k_asm); (case kK => first | exact rfl | assumption); (case kd => ktr_room); (case ku => ktr_units); (case ha => (walk_at "NTn")); (case hb => (walk_at "NTa")); (case hc => (walk_at "NTa")); (case hd => (walk_at "NTa")); (case he => (walk_at "NTa")); (case hf => (walk_at "NTa")); (case hg => (walk_at "NTa")); (case hh => (walk_at "NTa")); (case hi => (walk_at "NTa")); (case hj => (walk_at "NTa")); intro r9 tl9 h9 tk9 F9 N9 ho9; obtain ⟨a9, m9, e9, u9, w9, x9, q9, hm9, hs9⟩ := ho9; subst q9; (try dsimp only); (try k_fold)))
  k_with "NT call ref" => (k_here; (with_reducible show wpAny _ _ (PySem.call (Value.ref 730) _ _) _ _ _); k_dflt (refine' Does.use (c_lnumber _ _ _ _ _ ?ha ?hb) ?k1 ?k2 ?k3 ?k4 ?k5 ?kK ?kd ?ku ?_; (case k1 => k_asm); (case k2 => k_asm); (case k3 => k_asm); (case k4 => k_asm); (case k5 => k_asm); (case kK => first | exact rfl | assumption); (case kd => ktr_room); (case ku => ktr_units); (case ha => (walk_at "NTa")); (case hb => (walk_at "NTa")); intro r9 tl9 h9 tk9 F9 N9 ho9; obtain ⟨x9, hx9, hk9⟩ := ho9; (try dsimp only); (try k_fold)))
  k_with "NT call ref" => (k_here; (with_reducible show wpAny _ _ (PySem.call (Value.ref 751) _ _) _ _ _); k_dflt (refine' Does.use (c_lsingle _ _ _ _ _ ?ha ?hb ?hc ?hd) ?k1 ?k2 ?k3 ?k4 ?k5 ?kK ?kd ?ku ?_; (case k1 => k_asm); (case k2 => k_asm); (case k3 => k_asm); (case k4 => k_asm); (case k5 => k_asm); (case kK => first | exact rfl | assumption); (case kd => ktr_room); (case ku => ktr_units); (case ha => (walk_at "NTn")); (case hb => (walk_at "NTa")); (case hc => (walk_at "NTa")); (case hd => (walk_at "NTo")); intro r9 tl9 h9 tk9 F9 N9 ho9; (have e9 : _ = _ := ho9); clear ho9; subst e9; (try dsimp only); (try k_fold)))
  k_with "NT storeName" => (k_here; k_dflt (refine' store_cell ?F ?N ?m ?s ?l ?lt ?c ?d ?_ ?a ?b; (case a => rfl); (case b => rfl); (case F => k_asm); (case N => k_asm); (case c => rfl); (case m => k_mem); (case d => k_asm); (case lt => exact Nat.lt_succ_self _); (case l => assumption); (case s => ktd_sub)); intro h' o' F' N' d'; (try dsimp only))
  k_with "NT call ref" => (k_here; (with_reducible show wpAny _ _ (PySem.call (Value.ref 723) _ _) _ _ _); k_dflt (refine' Does.use (c_lshown _ _ _ ?ha) ?k1 ?k2 ?k3 ?k4 ?k5 ?kK ?kd ?ku ?_; (case k1 => k_asm); (case k2 => k_asm); (case k3 => k_asm); (case k4 => k_asm); (case k5 => k_asm); (case kK => first | exact rfl | assumption); (case kd => ktr_room); (case ku => ktr_units); (case ha => (walk_at "NTn")); intro r9 tl9 h9 tk9 F9 N9 ho9; obtain ⟨a9, u9, v9, w9, e9, hm9⟩ := ho9; subst e9; (try dsimp only); (try k_fold)))
  k_with "NT call ref" => (k_here; (with_reducible show wpAny _ _ (PySem.call (Value.ref 756) _ _) _ _ _); k_dflt (refine' Does.use (c_lpair _ _ _ _ _ _ _ ?ht ?ha ?hb ?hc ?hd ?he ?hf) ?k1 ?k2 ?k3 ?k4 ?k5 ?kK ?kd ?ku ?_; (case k1 => k_asm); (case k2 => k_asm); (case k3 => k_asm); (case k4 => k_asm); (case k5 => k_asm); (case kK => first | exact rfl | assumption); (case kd => ktr_room); (case ku => ktr_units); (case ht => (walk_at "NTt")); (case ha => (walk_at "NTn")); (case hb => (walk_at "NTn")); (case hc => (walk_at "NTa")); (case hd => (walk_at "NTa")); (case he => (walk_at "NTo")); (case hf => (walk_at "NTo")); intro r9 tl9 h9 tk9 F9 N9 ho9; (have e9 : _ = _ := ho9); clear ho9; subst e9; (try dsimp only); (try k_fold)))
  trivial
end
section
section
variable {M : Model} {A : Around} {E : Value → Shared → Prop} {s : Shared} {h₀ : Heap} {L : Addr} {m : Str → Option Value} {cn : Str} {cs : Scope} {ccd : Value} {cl : List (Str × Addr)} {all news : List (Addr × Obj)} {a : Addr} {x : Str} {v : Value} {v₀ : Option Value} {c d : Addr} {o od : Obj} {Q : Unit → Shared → Prop}
theorem store_cell2 (F : Fr h₀ L s.heap m) (N : News h₀ L s.heap all) (hm : (c, o) ∈ all) (hn : (d, od) ∈ all) (hdc : d ≠ c) (hc : cl.lookup x = some c) (hd : o.data = .cell v₀)
    (h : ∀ h' o', Fr h₀ L h' m → News h₀ L h' [(c, o'), (d, od)] → o'.data = .cell (some v) → Q () { s with heap := h' })
    (hk : cs.kind = .function := by rfl) (hx : (envX cn cs L a ccd cl).kindOf x = some .cell := by rfl) : wpAny M A (storeName (envX cn cs L a ccd cl) x v) Q E s := by
  have N2 : News h₀ L s.heap [(c, o), (d, od)] := fun p hp => by
    rcases List.mem_cons.mp hp with rfl | hp
    · exact N _ hm
    · rw [List.mem_singleton.mp hp]; exact N _ hn
  exact storeX_C F N2 hc (.head fun p hp => by rw [List.mem_singleton.mp hp]; exact hdc) hd h hk hx
end
section
variable {prog : Program} {w : World} {A : Around} {E : Value → Shared → Prop} {s : Shared} {h₀ : Heap} {L : Addr} {m : Str → Option Value} {news : List (Addr × Obj)} {Q : Value → Shared → Prop}
theorem fm7 (c : Int) : 0 ≤ c.fmod 7 ∧ c.fmod 7 < 7 := by rw [Int.fmod_eq_emod_of_nonneg _ (by decide)]; omega
theorem add_ledger {l b : Addr} {vs ws : List Value} (F : Fr h₀ L s.heap m) (N : News h₀ L s.heap news) (hl : (l, LCg.lst vs) ∈ news) (hb : (b, lisOf ws) ∈ news) {ns ms : List Int} (hi : IntsAre vs ns) (hj : IntsAre ws ms) (hsz : vs.length + ws.length ≤ sizeLine)
    (h : ∀ h' d, Fr h₀ L h' m → News h₀ L h' ((d, lisOf (vs ++ ws)) :: news) → (∀ q ∈ news, q.1 < d) → IntsAre (vs ++ ws) (ns ++ ms) → Q (.ref d) { s with heap := h' }) :
    wpAny (model prog w) A (binaryOp .Add (.ref l) (.ref b)) Q E s :=
  add_lists F N (News.isList N hl) (News.isList N hb) (fun h' F' N' => h h' _ F' N' (fun q hq => Heap.lt_size (N q hq).1) (hi.append hj)) hsz
end
theorem laid_NTW17_1 : True := by
  k_with "NT SrcOf" => refine NT.Halt.out ?_
  trivial
theorem laid_NTW17_2 : True := by
  k_with "NT TurnEnd" => refine NT.Halt.out ?_
  trivial
theorem laid_NTW17_3 : True := by
  k_with "NT binaryOp Add ref ref" => refine NT.Halt.out ?_
  trivial
theorem laid_NTW17_4 : True := by
  k_with "NT eval ListComp" => (k_here; k_dflt (refine NT.comp_eval (by k_asm) (by with_unfolding_all rfl) (by decide) (by rfl) (by decide) (by rfl) ?_))
  trivial
theorem laid_NTW17_5 : True := by
  k_with "NT exec Assign cons ListComp" => (k_here; k_dflt (refine NT.comp_assign (by k_asm) (by rfl) (by with_unfolding_all rfl) (by with_unfolding_all rfl) (by decide) (by rfl) (by decide) (by rfl) (by rfl) (by rfl) ?_))
  trivial
theorem ints_all {vs : List Value} {ns : List Int} (h : IntsAre vs ns) {v : Value} (hv : v ∈ vs) : ∃ n t, v = .int n t := h.all v hv
theorem nums_all {ys : List Value} {nw : Led} {p : Int} (h : ∀ r ∈ ys, ∃ x, NumIn nw r x ∧ NumOk p x) {v : Value} (hv : v ∈ ys) : ∃ x, NumIn nw v x ∧ NumOk p x := h v hv
/-- a frame's map that two names may have changed -/
def Keeps2 (a b : Str) (m₀ m' : Str → Option Value) : Prop := ∀ y, y ≠ a → y ≠ b → m' y = m₀ y
theorem Keeps2.map {a b : Str} {m₀ m' : Str → Option Value} (h : Keeps2 a b m₀ m') : m' = fun y => if y = b then m' b else if y = a then m' a else m₀ y := funext fun y => by
  by_cases h1 : y = b
  · rw [if_pos h1, h1]
  · rw [if_neg h1]
    by_cases h2 : y = a
    · rw [if_pos h2, h2]
    · rw [if_neg h2, h y h2 h1]
theorem len_led {prog : Program} {w : World} {A : Around} {E : Value → Shared → Prop} {s : Shared} {h₀ : Heap} {L : Addr} {news : Led} {l : Addr} {vs : List Value} {k : Nat} {Q : Value → Shared → Prop}
    (N : News h₀ L s.heap news) (hm : (l, lisK vs k) ∈ news) (hl : vs.length ≤ 100) (h : Q (.int (vs.length : Int) (s.toks + 1)) { s with toks := s.toks + 1 + 1 }) : wpAny (model prog w) A (call (.builtin "len") [.ref l]) Q E s :=
  len_list (items := vs.toArray) ⟨_, N.get hm, rfl, _, rfl⟩ (by rw [List.size_toArray]; omega) (by rw [List.size_toArray]; exact h)
theorem item_led {prog : Program} {w : World} {A : Around} {E : Value → Shared → Prop} {s : Shared} {h₀ : Heap} {L : Addr} {news : Led} {value slice : Expr} {l : Addr} {vs : List Value} {kk : Nat} {k : Int} {u : Tok} {Q : Value → Shared → Prop}
    (N : News h₀ L s.heap news) (hm : (l, lisK vs kk) ∈ news) (h1 : -(vs.length : Int) ≤ k) (h2 : k < vs.length) (h3 : vs.length ≤ 100) (h : ∀ v, v ∈ vs → Q v s)
    (hs : subscripted slice false (.ref l) (.int k u) = operate [.ref l, .int k u] (getItem (.ref l) (.int k u)) := by with_unfolding_all rfl) :
    wpAny (model prog w) A (subscriptTail value slice (.ref l) (.int k u)) Q E s := item_at ⟨_, N.get hm, rfl, _, rfl⟩ h1 h2 h3 h hs
theorem laid_NTW17_6 : True := by
  k_with "NT call builtin:len" => (k_here; (with_reducible show wpAny _ _ (PySem.call (Value.builtin "len") [Value.ref _]) _ _ _); k_dflt (refine' NT.len_led ?k1 ?k2 ?k3 ?_; (case k1 => k_asm); (case k2 => k_mem); (case k3 => assumption)); (try dsimp only))
  trivial
theorem laid_NTW17_7 : True := by
  k_with "NT call type:range" => (k_here; k_dflt (refine' range1_rows ?F ?N ?_; (case F => k_asm); (case N => k_asm)); intro h9 tk9 t9 u9 v9 hR9 F9 N9 up9; (try dsimp only))
  trivial
theorem laid_NTW17_8 : True := by
  k_with "NT pyIter ref" => refine NT.Halt.out ?_
  trivial
theorem laid_NTW17_9 : True := by
  k_with "NT InvPost" => refine NT.Halt.out ?_
  trivial
theorem laid_NTW17_10 : True := by
  k_with "NT exec For Name Call cons nil" => (k_here; (rename Fr _ _ _ _ => lF'); (with_unfolding_all refine' For_invVF lF' ?k1 ?k2 ?_; (case k1 => exact rfl); (case k2 => exact rfl); k_whole))
  trivial
theorem laid_NTW17_11 : True := by
  k_with "NT subscriptTail Name Name ref int" => (k_here; (with_reducible show wpAny _ _ (subscriptTail (Expr.Name (Str.ofString "codes") _) _ (Value.ref _) (Value.int _ _)) _ _ _); (refine' NT.item_led ?k0 ?k1 ?k2 ?k3 ?k4 ?_ ?k6; (case k0 => k_asm); (case k1 => k_mem); (case k2 => omega); (case k3 => omega); (case k4 => assumption); (case k6 => with_unfolding_all rfl)); intro v9 hv9; obtain ⟨n9, t9, e9⟩ := NT.ints_all (by with_reducible assumption) hv9; subst e9)
  trivial
theorem laid_NTW17_12 : True := by
  k_with "NT subscriptTail Name Name ref int" => (k_here; (with_reducible show wpAny _ _ (subscriptTail (Expr.Name (Str.ofString "some") _) _ (Value.ref _) (Value.int _ _)) _ _ _); (refine' NT.item_led ?k0 ?k1 ?k2 ?k3 ?k4 ?_ ?k6; (case k0 => k_asm); (case k1 => k_mem); (case k2 => omega); (case k3 => omega); (case k4 => assumption); (case k6 => with_unfolding_all rfl)); intro v9 hv9; obtain ⟨x9, hx9, hk9⟩ := NT.nums_all (by with_reducible assumption) hv9)
  trivial
theorem laid_NTW17_13 : True := by
  k_with "NT subscriptTail Name BinOp ref int" => (k_here; (with_reducible show wpAny _ _ (subscriptTail (Expr.Name (Str.ofString "some") _) _ (Value.ref _) (Value.int _ _)) _ _ _); (refine' NT.item_led ?k0 ?k1 ?k2 ?k3 ?k4 ?_ ?k6; (case k0 => k_asm); (case k1 => k_mem); (case k2 => omega); (case k3 => omega); (case k4 => assumption); (case k6 => with_unfolding_all rfl)); intro v9 hv9; obtain ⟨x9, hx9, hk9⟩ := NT.nums_all (by with_reducible assumption) hv9)
  trivial
local macro_rules | `(tactic| k_qdec) => `(tactic| decide +kernel)
set_option maxRecDepth 100000 in
set_option maxHeartbeats 8000000 in
theorem lawW : PySem.W.WalkO NT.VV [PySem.Str.ofString "REACH", PySem.Str.ofString "to_exact_numkinds", PySem.Str.ofString "compare_numkinds"] (PySem.W.XL NT.VV [(PySem.Str.ofString "REACH", PySem.W.WData.int 65536)]) (PySem.W.kHook NT.hdA.heap_1 [2, 3, 15, 17, 18, 20, 21, 22, 29, 31, 32, 34, 35, 36, 37, 38, 39, 42, 49, 51, 52, 54, 55, 56, 57, 58, 61, 68, 70, 71, 73, 74, 75, 76, 77, 87, 89, 90, 92, 93, 94, 95, 96, 97, 98, 101, 103, 104, 106, 107, 108, 110, 111, 113, 114, 115, 117, 118, 120, 121, 122, 124, 125, 127, 128, 129, 131, 132, 134, 135, 136, 138, 139, 141, 142, 143, 145, 146, 148, 149, 150, 152, 153, 155, 156, 157, 159, 160, 162, 163, 164, 166, 167, 169, 170, 171, 173, 174, 176, 177, 178, 180, 181, 183, 184, 185, 187, 188, 190, 191, 192, 194, 195, 197, 198, 199, 201, 202, 204, 205, 206, 208, 209, 211, 212, 213, 215, 216, 218, 219, 220, 222, 223, 225, 226, 227, 229, 230, 232, 233, 234, 236, 237, 239, 240, 241, 243, 244, 246, 247, 255, 257, 258, 260, 261, 262, 263, 264, 265, 266, 269, 271, 272, 274, 275, 276, 278, 279, 281, 282, 283, 285, 286, 288, 289, 290, 292, 293, 295, 296, 297, 299, 300, 302, 303, 304, 306, 307, 309, 310, 311, 313, 314, 316, 317, 318, 320, 321, 323, 324, 325, 327, 328, 330, 331, 332, 334, 335, 337, 338, 339, 341, 342, 344, 345, 346, 348, 349, 351, 352, 353, 355, 356, 358, 359, 360, 362, 363, 365, 366, 367, 369, 370, 372, 373, 374, 376, 377, 379, 380, 381, 383, 384, 386, 387, 388, 390, 391, 393, 394, 402, 404, 405, 407, 408, 409, 411, 412, 414, 415, 416, 418, 419, 421, 422, 423, 425, 426, 428, 429, 430, 432, 433, 435, 436, 437, 439, 440, 442, 443, 444, 446, 447, 449, 450, 451, 453, 454, 456, 457, 458, 460, 461, 463, 464, 465, 467, 468, 470, 471, 472, 474, 475, 477, 478, 479, 481, 482, 484, 485, 486, 488, 489, 491, 492, 493, 495, 496, 498, 499, 500, 502, 503, 505, 506, 507, 509, 510, 512, 513, 514, 516, 517, 519, 520, 521, 523, 524, 526, 527, 528, 530, 531, 533, 534, 535, 537, 538, 540, 541, 542, 544, 545, 547, 548, 549, 551, 552, 554, 555, 556, 558, 559, 561, 562, 563, 565, 566, 568, 569, 570, 572, 573, 575, 576, 577, 579, 580, 582, 583, 584, 586, 587, 589, 590, 591, 593, 594, 596, 597, 598, 600, 601, 603, 604, 605, 607, 608, 610, 611, 612, 614, 615, 617, 618, 619, 621, 622, 624, 625, 626, 628, 629, 631, 632, 633, 635, 636, 638, 639, 640, 642, 643, 645, 646, 647, 649, 650, 652, 653, 654, 656, 657, 659, 660, 661, 663, 664, 666, 667, 668, 670, 671, 673, 674, 675, 677, 678, 680, 681, 682, 683, 684, 685, 686, 689, 691, 692, 694, 695, 696, 698, 699, 701, 702, 703, 705, 706, 708, 709, 710, 712, 713, 715, 716, 717, 719, 720, 722, 723, 724, 726, 727, 729, 730, 731, 733, 734, 736, 737, 738, 740, 741, 743, 744, 745, 747, 748, 750, 751, 752, 755, 756, 757, 760, 761] (fun _ => by kernel_rfl)).says PySem.Challenge.rw_nt0211_01.row.toRowW { name := PySem.Str.ofString "law", params := { posonlyargs := [], args := [{ arg := PySem.Str.ofString "script", annotation := Option.none, pos := { line := 400, col := 8, endLine := 400, endCol := 14 : PySem.Pos } : PySem.Arg }], vararg := Option.none, kwonlyargs := [], kw_defaults := [], kwarg := Option.none, defaults := [] : PySem.Arguments }, body := [PySem.Stmt.Assign [PySem.Expr.Name (PySem.Str.ofString "codes") { line := 401, col := 4, endLine := 401, endCol := 9 : PySem.Pos }] (((((PySem.Expr.Constant (PySem.Const.int 2) 0 { line := 401, col := 13, endLine := 401, endCol := 14 : PySem.Pos }).BinOp PySem.Operator.Mult ((PySem.Expr.Name (PySem.Str.ofString "abs") { line := 401, col := 17, endLine := 401, endCol := 20 : PySem.Pos }).Call [PySem.Expr.Name (PySem.Str.ofString "cell") { line := 401, col := 21, endLine := 401, endCol := 25 : PySem.Pos }] [] { line := 401, col := 17, endLine := 401, endCol := 26 : PySem.Pos }) { line := 401, col := 13, endLine := 401, endCol := 26 : PySem.Pos }).BinOp PySem.Operator.Add ((PySem.Expr.Name (PySem.Str.ofString "int") { line := 401, col := 29, endLine := 401, endCol := 32 : PySem.Pos }).Call [(PySem.Expr.Name (PySem.Str.ofString "cell") { line := 401, col := 33, endLine := 401, endCol := 37 : PySem.Pos }).Compare [PySem.CmpOp.Lt] [PySem.Expr.Constant (PySem.Const.int 0) 0 { line := 401, col := 40, endLine := 401, endCol := 41 : PySem.Pos }] { line := 401, col := 33, endLine := 401, endCol := 41 : PySem.Pos }] [] { line := 401, col := 29, endLine := 401, endCol := 42 : PySem.Pos }) { line := 401, col := 13, endLine := 401, endCol := 42 : PySem.Pos }).ListComp [{ target := PySem.Expr.Name (PySem.Str.ofString "cell") { line := 401, col := 47, endLine := 401, endCol := 51 : PySem.Pos }, iter := (PySem.Expr.Name (PySem.Str.ofString "script") { line := 401, col := 55, endLine := 401, endCol := 61 : PySem.Pos }).Subscript (PySem.Expr.Slice Option.none (Option.some (PySem.Expr.Constant (PySem.Const.int 5) 0 { line := 401, col := 63, endLine := 401, endCol := 64 : PySem.Pos })) Option.none { line := 401, col := 62, endLine := 401, endCol := 64 : PySem.Pos }) { line := 401, col := 55, endLine := 401, endCol := 65 : PySem.Pos }, ifs := [], is_async := 0 : PySem.Comprehension }] { kind := PySem.ScopeKind.function, names := [(PySem.Str.ofString ".0", PySem.NameKind.local), (PySem.Str.ofString "cell", PySem.NameKind.local), (PySem.Str.ofString "abs", PySem.NameKind.globalImplicit), (PySem.Str.ofString "int", PySem.NameKind.globalImplicit)], isGenerator := Bool.false, isCoroutine := Bool.false : PySem.Scope } { line := 401, col := 12, endLine := 401, endCol := 66 : PySem.Pos }).BinOp PySem.Operator.Add (PySem.Expr.List [PySem.Expr.Constant (PySem.Const.int 36) 0 { line := 401, col := 70, endLine := 401, endCol := 72 : PySem.Pos }, PySem.Expr.Constant (PySem.Const.int 1777) 0 { line := 401, col := 74, endLine := 401, endCol := 78 : PySem.Pos }] { line := 401, col := 69, endLine := 401, endCol := 79 : PySem.Pos }) { line := 401, col := 12, endLine := 401, endCol := 79 : PySem.Pos }) { line := 401, col := 4, endLine := 401, endCol := 79 : PySem.Pos }, PySem.Stmt.Assign [PySem.Expr.Name (PySem.Str.ofString "bits") { line := 402, col := 4, endLine := 402, endCol := 8 : PySem.Pos }] ((PySem.Expr.Constant (PySem.Const.int 2) 0 { line := 402, col := 11, endLine := 402, endCol := 12 : PySem.Pos }).BinOp PySem.Operator.Add (((PySem.Expr.Name (PySem.Str.ofString "sum") { line := 402, col := 15, endLine := 402, endCol := 18 : PySem.Pos }).Call [PySem.Expr.Name (PySem.Str.ofString "codes") { line := 402, col := 19, endLine := 402, endCol := 24 : PySem.Pos }] [] { line := 402, col := 15, endLine := 402, endCol := 25 : PySem.Pos }).BinOp PySem.Operator.Mod (PySem.Expr.Constant (PySem.Const.int 7) 0 { line := 402, col := 28, endLine := 402, endCol := 29 : PySem.Pos }) { line := 402, col := 15, endLine := 402, endCol := 29 : PySem.Pos }) { line := 402, col := 11, endLine := 402, endCol := 29 : PySem.Pos }) { line := 402, col := 4, endLine := 402, endCol := 29 : PySem.Pos }, PySem.Stmt.Assign [PySem.Expr.Name (PySem.Str.ofString "tower") { line := 403, col := 4, endLine := 403, endCol := 9 : PySem.Pos }] ((PySem.Expr.Name (PySem.Str.ofString "Tower") { line := 403, col := 12, endLine := 403, endCol := 17 : PySem.Pos }).Call [PySem.Expr.Name (PySem.Str.ofString "bits") { line := 403, col := 18, endLine := 403, endCol := 22 : PySem.Pos }] [] { line := 403, col := 12, endLine := 403, endCol := 23 : PySem.Pos }) { line := 403, col := 4, endLine := 403, endCol := 23 : PySem.Pos }, PySem.Stmt.Assign [PySem.Expr.Name (PySem.Str.ofString "some") { line := 404, col := 4, endLine := 404, endCol := 8 : PySem.Pos }] (((PySem.Expr.Name (PySem.Str.ofString "_law_number") { line := 404, col := 12, endLine := 404, endCol := 23 : PySem.Pos }).Call [PySem.Expr.Name (PySem.Str.ofString "bits") { line := 404, col := 24, endLine := 404, endCol := 28 : PySem.Pos }, PySem.Expr.Name (PySem.Str.ofString "code") { line := 404, col := 30, endLine := 404, endCol := 34 : PySem.Pos }] [] { line := 404, col := 12, endLine := 404, endCol := 35 : PySem.Pos }).ListComp [{ target := PySem.Expr.Name (PySem.Str.ofString "code") { line := 404, col := 40, endLine := 404, endCol := 44 : PySem.Pos }, iter := PySem.Expr.Name (PySem.Str.ofString "codes") { line := 404, col := 48, endLine := 404, endCol := 53 : PySem.Pos }, ifs := [], is_async := 0 : PySem.Comprehension }] { kind := PySem.ScopeKind.function, names := [(PySem.Str.ofString ".0", PySem.NameKind.local), (PySem.Str.ofString "code", PySem.NameKind.local), (PySem.Str.ofString "_law_number", PySem.NameKind.globalImplicit), (PySem.Str.ofString "bits", PySem.NameKind.free)], isGenerator := Bool.false, isCoroutine := Bool.false : PySem.Scope } { line := 404, col := 11, endLine := 404, endCol := 54 : PySem.Pos }) { line := 404, col := 4, endLine := 404, endCol := 54 : PySem.Pos }, PySem.Stmt.For (PySem.Expr.Name (PySem.Str.ofString "at") { line := 405, col := 8, endLine := 405, endCol := 10 : PySem.Pos }) ((PySem.Expr.Name (PySem.Str.ofString "range") { line := 405, col := 14, endLine := 405, endCol := 19 : PySem.Pos }).Call [(PySem.Expr.Name (PySem.Str.ofString "len") { line := 405, col := 20, endLine := 405, endCol := 23 : PySem.Pos }).Call [PySem.Expr.Name (PySem.Str.ofString "some") { line := 405, col := 24, endLine := 405, endCol := 28 : PySem.Pos }] [] { line := 405, col := 20, endLine := 405, endCol := 29 : PySem.Pos }] [] { line := 405, col := 14, endLine := 405, endCol := 30 : PySem.Pos }) [PySem.Stmt.Assign [PySem.Expr.Name (PySem.Str.ofString "near") { line := 406, col := 8, endLine := 406, endCol := 12 : PySem.Pos }] ((PySem.Expr.Name (PySem.Str.ofString "_law_number") { line := 406, col := 15, endLine := 406, endCol := 26 : PySem.Pos }).Call [PySem.Expr.Name (PySem.Str.ofString "bits") { line := 406, col := 27, endLine := 406, endCol := 31 : PySem.Pos }, ((((PySem.Expr.Name (PySem.Str.ofString "codes") { line := 406, col := 33, endLine := 406, endCol := 38 : PySem.Pos }).Subscript (PySem.Expr.Name (PySem.Str.ofString "at") { line := 406, col := 39, endLine := 406, endCol := 41 : PySem.Pos }) { line := 406, col := 33, endLine := 406, endCol := 42 : PySem.Pos }).BinOp PySem.Operator.FloorDiv (PySem.Expr.Constant (PySem.Const.int 5) 0 { line := 406, col := 46, endLine := 406, endCol := 47 : PySem.Pos }) { line := 406, col := 33, endLine := 406, endCol := 47 : PySem.Pos }).BinOp PySem.Operator.Mult (PySem.Expr.Constant (PySem.Const.int 5) 0 { line := 406, col := 50, endLine := 406, endCol := 51 : PySem.Pos }) { line := 406, col := 33, endLine := 406, endCol := 51 : PySem.Pos }).BinOp PySem.Operator.Add ((((PySem.Expr.Name (PySem.Str.ofString "codes") { line := 406, col := 55, endLine := 406, endCol := 60 : PySem.Pos }).Subscript (PySem.Expr.Name (PySem.Str.ofString "at") { line := 406, col := 61, endLine := 406, endCol := 63 : PySem.Pos }) { line := 406, col := 55, endLine := 406, endCol := 64 : PySem.Pos }).BinOp PySem.Operator.Add (PySem.Expr.Constant (PySem.Const.int 1) 0 { line := 406, col := 67, endLine := 406, endCol := 68 : PySem.Pos }) { line := 406, col := 55, endLine := 406, endCol := 68 : PySem.Pos }).BinOp PySem.Operator.Mod (PySem.Expr.Constant (PySem.Const.int 5) 0 { line := 406, col := 72, endLine := 406, endCol := 73 : PySem.Pos }) { line := 406, col := 54, endLine := 406, endCol := 73 : PySem.Pos }) { line := 406, col := 33, endLine := 406, endCol := 73 : PySem.Pos }] [] { line := 406, col := 15, endLine := 406, endCol := 74 : PySem.Pos }) { line := 406, col := 8, endLine := 406, endCol := 74 : PySem.Pos }, PySem.Stmt.If (PySem.Expr.BoolOp PySem.BoolOp.Or [PySem.Expr.UnaryOp PySem.UnaryOp.Not ((PySem.Expr.Name (PySem.Str.ofString "_law_single") { line := 407, col := 15, endLine := 407, endCol := 26 : PySem.Pos }).Call [PySem.Expr.Name (PySem.Str.ofString "bits") { line := 407, col := 27, endLine := 407, endCol := 31 : PySem.Pos }, (PySem.Expr.Name (PySem.Str.ofString "some") { line := 407, col := 33, endLine := 407, endCol := 37 : PySem.Pos }).Subscript (PySem.Expr.Name (PySem.Str.ofString "at") { line := 407, col := 38, endLine := 407, endCol := 40 : PySem.Pos }) { line := 407, col := 33, endLine := 407, endCol := 41 : PySem.Pos }] [] { line := 407, col := 15, endLine := 407, endCol := 42 : PySem.Pos }) { line := 407, col := 11, endLine := 407, endCol := 42 : PySem.Pos }, PySem.Expr.UnaryOp PySem.UnaryOp.Not ((PySem.Expr.Name (PySem.Str.ofString "_law_pair") { line := 407, col := 50, endLine := 407, endCol := 59 : PySem.Pos }).Call [PySem.Expr.Name (PySem.Str.ofString "tower") { line := 407, col := 60, endLine := 407, endCol := 65 : PySem.Pos }, (PySem.Expr.Name (PySem.Str.ofString "some") { line := 407, col := 67, endLine := 407, endCol := 71 : PySem.Pos }).Subscript (PySem.Expr.Name (PySem.Str.ofString "at") { line := 407, col := 72, endLine := 407, endCol := 74 : PySem.Pos }) { line := 407, col := 67, endLine := 407, endCol := 75 : PySem.Pos }, PySem.Expr.Name (PySem.Str.ofString "near") { line := 407, col := 77, endLine := 407, endCol := 81 : PySem.Pos }] [] { line := 407, col := 50, endLine := 407, endCol := 82 : PySem.Pos }) { line := 407, col := 46, endLine := 407, endCol := 82 : PySem.Pos }] { line := 407, col := 11, endLine := 407, endCol := 82 : PySem.Pos }) [PySem.Stmt.Return (Option.some (PySem.Expr.Constant (PySem.Const.bool Bool.false) 0 { line := 408, col := 19, endLine := 408, endCol := 24 : PySem.Pos })) { line := 408, col := 12, endLine := 408, endCol := 24 : PySem.Pos }] [] { line := 407, col := 8, endLine := 408, endCol := 24 : PySem.Pos }, PySem.Stmt.If (PySem.Expr.UnaryOp PySem.UnaryOp.Not ((PySem.Expr.Name (PySem.Str.ofString "_law_pair") { line := 409, col := 15, endLine := 409, endCol := 24 : PySem.Pos }).Call [PySem.Expr.Name (PySem.Str.ofString "tower") { line := 409, col := 25, endLine := 409, endCol := 30 : PySem.Pos }, (PySem.Expr.Name (PySem.Str.ofString "some") { line := 409, col := 32, endLine := 409, endCol := 36 : PySem.Pos }).Subscript (PySem.Expr.Name (PySem.Str.ofString "at") { line := 409, col := 37, endLine := 409, endCol := 39 : PySem.Pos }) { line := 409, col := 32, endLine := 409, endCol := 40 : PySem.Pos }, (PySem.Expr.Name (PySem.Str.ofString "some") { line := 409, col := 42, endLine := 409, endCol := 46 : PySem.Pos }).Subscript ((PySem.Expr.Name (PySem.Str.ofString "at") { line := 409, col := 47, endLine := 409, endCol := 49 : PySem.Pos }).BinOp PySem.Operator.Sub (PySem.Expr.Constant (PySem.Const.int 1) 0 { line := 409, col := 52, endLine := 409, endCol := 53 : PySem.Pos }) { line := 409, col := 47, endLine := 409, endCol := 53 : PySem.Pos }) { line := 409, col := 42, endLine := 409, endCol := 54 : PySem.Pos }] [] { line := 409, col := 15, endLine := 409, endCol := 55 : PySem.Pos }) { line := 409, col := 11, endLine := 409, endCol := 55 : PySem.Pos }) [PySem.Stmt.Return (Option.some (PySem.Expr.Constant (PySem.Const.bool Bool.false) 0 { line := 410, col := 19, endLine := 410, endCol := 24 : PySem.Pos })) { line := 410, col := 12, endLine := 410, endCol := 24 : PySem.Pos }] [] { line := 409, col := 8, endLine := 410, endCol := 24 : PySem.Pos }] [] { line := 405, col := 4, endLine := 410, endCol := 24 : PySem.Pos }, PySem.Stmt.Return (Option.some (PySem.Expr.Constant (PySem.Const.bool Bool.true) 0 { line := 411, col := 11, endLine := 411, endCol := 15 : PySem.Pos })) { line := 411, col := 4, endLine := 411, endCol := 15 : PySem.Pos }], scope := { kind := PySem.ScopeKind.function, names := [(PySem.Str.ofString "script", PySem.NameKind.local), (PySem.Str.ofString "codes", PySem.NameKind.local), (PySem.Str.ofString "bits", PySem.NameKind.cell), (PySem.Str.ofString "tower", PySem.NameKind.local), (PySem.Str.ofString "some", PySem.NameKind.local), (PySem.Str.ofString "at", PySem.NameKind.local), (PySem.Str.ofString "near", PySem.NameKind.local), (PySem.Str.ofString "sum", PySem.NameKind.globalImplicit), (PySem.Str.ofString "Tower", PySem.NameKind.globalImplicit), (PySem.Str.ofString "range", PySem.NameKind.globalImplicit), (PySem.Str.ofString "len", PySem.NameKind.globalImplicit), (PySem.Str.ofString "_law_number", PySem.NameKind.globalImplicit), (PySem.Str.ofString "_law_single", PySem.NameKind.globalImplicit), (PySem.Str.ofString "_law_pair", PySem.NameKind.globalImplicit)], isGenerator := Bool.false, isCoroutine := Bool.false, more := [(PySem.Str.ofString "fast", PySem.Const.str (PySem.Str.ofString "script")), (PySem.Str.ofString "fast", PySem.Const.str (PySem.Str.ofString "cell")), (PySem.Str.ofString "fast", PySem.Const.str (PySem.Str.ofString "codes")), (PySem.Str.ofString "fast", PySem.Const.str (PySem.Str.ofString "bits")), (PySem.Str.ofString "fast", PySem.Const.str (PySem.Str.ofString "tower")), (PySem.Str.ofString "fast", PySem.Const.str (PySem.Str.ofString "code")), (PySem.Str.ofString "fast", PySem.Const.str (PySem.Str.ofString "some")), (PySem.Str.ofString "fast", PySem.Const.str (PySem.Str.ofString "at")), (PySem.Str.ofString "fast", PySem.Const.str (PySem.Str.ofString "near"))] : PySem.Scope }, pos := { line := 400, col := 0, endLine := 411, endCol := 15 : PySem.Pos } : PySem.DefRec } [] fun f vs => PySem.call f vs := by
  k_fill
  k_go0
  (all_goals try k_fold)
  rename _ = Data.cell _ => hcell
  rename Shared => s₁
  rename Obj => oc
  k_steps
  refine Halt.put ?_
  rename IntsAre _ (List.take 5 _) => hI5
  rename (List.take 5 _).length = _ => hC5
  refine SrcOf.each (fun nw r => ∃ n, NumIn nw r (.whole n)) (fun _ _ _ ⟨n, h⟩ hs => ⟨n, h.mono hs⟩) (by first | rfl | k_asm) (by k_asm) (by k_asm) (by k_mem) (by rw [hI5.length, hC5]; omega) ?_ ?_
  · intro v i ys nw I oI C oC D m₂ h tk E' hv sub hI hC hx F' N' off a1 a2 a3
    obtain ⟨n, t, rfl⟩ := hI5.all v hv
    k_steps
    refine Halt.put ?_
    exact TurnEnd.num (tl := []) hI hC hx (by assumption) (by assumption) off sub NumIn.whole fun nw' hs hr => ⟨_, rfl, ⟨_, hr⟩, hs⟩
  intro ys nw hy hys sub
  obtain ⟨ms, hms⟩ := ints_of hys
  have hml : ms.length ≤ 5 := by rw [← hms.length, hy, hI5.length, hC5]; omega
  unfold FinEv
  intro D h tk F' N' off
  replace N' := news_app N' sub
  k_steps
  refine Halt.put ?_
  rename News _ _ _ _ => lN
  refine add_ledger (vs := ys) (by k_asm) lN (List.mem_cons_of_mem _ List.mem_cons_self) List.mem_cons_self hms (.cons _ _ (.cons _ _ .nil)) (by rw [PySem.sizeLine_eq, hms.length]; simp only [List.length_cons, List.length_nil]; omega) ?_
  intro h3 d3 F3 N3 l3 hI7
  have hl7 : (ms ++ [36, 1777]).length ≤ 7 := by simp only [List.length_append, List.length_cons, List.length_nil]; omega
  generalize ms ++ [36, 1777] = cs at hI7 hl7
  generalize (ys ++ [Value.int 36 _, Value.int 1777 _]) = vs at hI7 N3
  have hcd := l3 (s₁.heap.objs.size + 1, oc) (List.mem_cons_of_mem _ (List.mem_cons_of_mem _ (List.mem_append.mpr (Or.inr (List.mem_cons_of_mem _ List.mem_cons_self)))))
  clear off sub hms hml hy hys
  k_steps
  have hp1 : 2 ≤ 2 + cs.sum.fmod 7 := by have := fm7 cs.sum; omega
  have hp2 : 2 + cs.sum.fmod 7 ≤ 8 := by have := fm7 cs.sum; omega
  generalize 2 + cs.sum.fmod 7 = p at hp1 hp2
  with_unfolding_all refine store_cell2 (all := _) (c := s₁.heap.objs.size + 1) (d := d3) (od := lisOf vs) (by k_asm) (by k_asm) (by k_mem) (by k_mem) (Nat.ne_of_gt hcd) (by rfl) (by assumption) ?_
  intro h4 o4 F4 N4 hc4
  k_steps
  refine Halt.put ?_
  have hv7 : vs.length ≤ 7 := by rw [hI7.length]; exact hl7
  refine SrcOf.each (fun nw r => ∃ x, NumIn nw r x ∧ NumOk p x) (fun _ _ _ ⟨x, h, ok⟩ hs => ⟨x, h.mono hs, ok⟩) (by first | rfl | k_asm) (by k_asm) (by k_asm) (by k_mem) (by omega) ?_ ?_
  · intro v i ys nw I oI C oC D m₂ h tk E' hv sub hI hC hx F' N' off a1 a2 a3
    obtain ⟨n, t, rfl⟩ := hI7.all v hv
    k_steps
    refine Halt.put ?_
    rename NumIn _ _ _ => hN9
    exact TurnEnd.num hI hC hx (by assumption) (by assumption) off sub hN9 fun nw' hs hr => ⟨_, rfl, ⟨_, hr, by assumption⟩, hs⟩
  intro ys nw hy hys sub
  unfold FinAs
  intro D h tk F' N' off
  replace N' := news_app N' sub
  have hyl : ys.length ≤ 100 := by omega
  have hvl : vs.length ≤ 100 := by omega
  k_steps
  refine Halt.put ?_
  with_unfolding_all refine range_loop (L := s₁.heap.objs.size) (Keeps2 (Str.ofString "at") (Str.ofString "near") _) (by with_unfolding_all rfl) (by first | rfl | k_asm) (by assumption) (by omega) (by k_asm) (by k_asm) (fun _ _ _ => rfl) ?_ ?_
  · intro i t m₁ h tk own hin hJ F' N'
    rw [hJ.map] at F'
    generalize m₁ (Str.ofString "at") = va at F'
    generalize m₁ (Str.ofString "near") = vn at F'
    dsimp only at F'
    k_steps
    refine Halt.put ?_
    refine InvEnd.intro (by assumption) (by assumption) (by ktd_sub) ?_
    intro y h1 h2
    simp only [if_neg h1, if_neg h2]
  intro m₁ h tk hJ F' N'
  rw [hJ.map] at F'
  k_steps
theorem laid_NTW17_end : True := by
  k_with_none
  k_with "NT subscriptTail Name Constant ref int" => (k_here; (with_reducible show wpAny _ _ (subscriptTail _ _ (Value.ref _) (Value.int _ _)) _ _ _); (with_unfolding_all refine' item_litK ?k1 ?k2 ?k3 ?k4 ?_ ?k6; (case k1 => exact News.isList (by k_asm) (by k_mem)); (case k2 => decide); (case k3 => decide); (case k4 => rfl); (case k6 => with_unfolding_all rfl); k_whole))
  k_with "NT call ref" => (k_here; (refine wpAny_call ?_); k_dflt (refine' code_def ?k1 ?k2 ?k3 ?k4 ?k5 ?kA ?kF ?kK ?k6 ?k7 ?k8 ?k9 ?kB ?_ ?c2 ?c3 ?c4 ?c5; (case kA => exact rfl); (case kF => exact rfl); (case kK => first | exact rfl | assumption); (case k1 => k_asm); (case k2 => k_asm); (case k3 => k_asm); (case k4 => k_asm); (case k5 => k_asm); (case k6 => k_is); (case k7 => k_is); (case k8 => ktr_room); (case k9 => exact BindsTo.of_eq rfl); (case c5 => decide); (case kB => exact locs rfl); (case c2 => exact rfl); (case c3 => exact rfl); (case c4 => exact rfl); k_whole; intro g' L' h' FG' F' N' B' X' T'; (try dsimp only); (try k_fold)))
  k_with "NT binaryOp Add ref ref" => (k_here; (with_reducible show wpAny _ _ (binaryOp _ (Value.ref _) (Value.ref _)) _ _ _); k_dflt (refine' kmk_add_lit ?F ?N ?a ?b ?e ?_ ?z; (case F => k_asm); (case N => k_asm); (case a => kmk_list); (case b => kmk_list); (case e => kl_lit); (case z => kl_room)); intro D' h' F' N' l1; (try dsimp only))
  k_with "NT compareOp NotEq ref ref" => (k_here; (with_reducible show wpAny _ _ (compareOp CmpOp.NotEq (Value.ref _) (Value.ref _)) _ _ _); k_dflt ((refine ne_dataH (by ke_read) (by ke_read) (by ke_shaped) (by ke_shaped) (by ktr_units) ?_); ke_norm))
  k_with "NT compareOp Eq ref ref" => (k_here; (with_reducible show wpAny _ _ (compareOp CmpOp.Eq (Value.ref _) (Value.ref _)) _ _ _); k_dflt ((refine eq_dataH (by ke_read) (by ke_read) (by ke_shaped) (by ke_shaped) (by ktr_units) ?_); ke_norm))
  k_with "NT exec For Name Name cons nil" => (k_here; (rename Fr _ _ _ _ => lF'); (with_unfolding_all refine' For_invVF lF' ?k1 ?k2 ?_; (case k1 => exact rfl); (case k2 => exact rfl); k_whole))
  k_with "NT exec For Name List cons nil" => (k_here; (rename Fr _ _ _ _ => lF'); (with_unfolding_all refine' For_invVF lF' ?k1 ?k2 ?_; (case k1 => exact rfl); (case k2 => exact rfl); k_whole))
  k_with "NT exec For Name Subscript cons nil" => (k_here; (rename Fr _ _ _ _ => lF'); (with_unfolding_all refine' For_invVF lF' ?k1 ?k2 ?_; (case k1 => exact rfl); (case k2 => exact rfl); k_whole))
  k_with "NT pyIter ref" => (k_here; (with_unfolding_all refine' iter_listUnr ?k0 ?k1 ?k2 ?k3 ?k4 ?k5 ?_; (case k0 => exact rfl); (case k1 => k_asm); (case k2 => k_asm); (case k3 => k_mem); (case k4 => exact rfl); (case k5 => exact rfl); k_whole); intro i9 l9)
  k_with "NT UnrEnd" => (refine UnrEnd.intro (by assumption) (by assumption) _ ?ks (offOf (by assumption)) ⟨?km, ?_⟩; (case ks => ktd_sub); (case km => k_mem))
  k_with "NT ite" => (k_openite; k_dflt (first | (refine ite_pos ?kc ?_; (case kc => first | omega | (simp only [decide_eq_true_eq, decide_eq_false_iff_not, beq_iff_eq, bne_iff_ne, ne_eq, Bool.not_eq_true', Bool.not_eq_false', Bool.and_eq_true, Bool.and_eq_false_iff, Bool.or_eq_true, Bool.not_not]; done) | ((simp only [decide_eq_true_eq, decide_eq_false_iff_not, beq_iff_eq, bne_iff_ne, ne_eq, Bool.not_eq_true', Bool.not_eq_false', Bool.and_eq_true, Bool.and_eq_false_iff, Bool.or_eq_true, Bool.not_not]); omega) | (simp; done))) | (refine ite_neg ?kc ?_; (case kc => first | omega | (simp only [decide_eq_true_eq, decide_eq_false_iff_not, beq_iff_eq, bne_iff_ne, ne_eq, Bool.not_eq_true', Bool.not_eq_false', Bool.and_eq_true, Bool.and_eq_false_iff, Bool.or_eq_true, Bool.not_not]; done) | ((simp only [decide_eq_true_eq, decide_eq_false_iff_not, beq_iff_eq, bne_iff_ne, ne_eq, Bool.not_eq_true', Bool.not_eq_false', Bool.and_eq_true, Bool.and_eq_false_iff, Bool.or_eq_true, Bool.not_not]); omega) | (simp; done)))))
  k_with "NT NTn" => first | assumption | exact NumIn.whole | exact NumIn.mono (by assumption) (by ktd_sub) | exact NumIn.real (by k_mem) (by k_mem) | exact NumIn.ratio (by k_mem) (by k_mem)
  k_with "NT NTt" => first | assumption | exact ⟨_, _, _, _, by k_mem, by k_mem⟩
  k_with "NT NTm" => first | assumption | ktr_member | k_mem
  k_with "NT NTo" => assumption
  k_with "NT NTa" => first | assumption | omega | decide
  k_with "NT binaryOp LShift int int" => (refine lshift_int_small ?kb1 ?kb2 ?kb3 ?_; (case kb1 => walk_at "NTa"); (case kb2 => walk_at "NTa"); (case kb3 => walk_at "NTa"))
  k_with "NT binaryOp Pow int int" => (refine pow_int_small ?kb1 ?kb2 ?kb3 ?_; (case kb1 => walk_at "NTa"); (case kb2 => walk_at "NTa"); (case kb3 => walk_at "NTa"))
  k_with "NT binaryOp RShift int int" => (refine rshift_int ?kb1 ?_; (case kb1 => walk_at "NTa"))
  k_with "NT binaryOp FloorDiv int int" => (refine floordiv_int ?kb1 ?_ (Or.inl (PyProof.noPylong_small ?kb2)); (case kb1 => walk_at "NTa"); (case kb2 => walk_at "NTa"))
  k_with "NT binaryOp Mult int int" => (refine mul_int ?_ ?kb1; rotate_left; (case kb1 => first | exact mulSignOk _ _ | exact IntMulOk.of_left (intBits_le_64 (by walk_at "NTa") (by walk_at "NTa")) | exact IntMulOk.of_right (intBits_le_64 (by walk_at "NTa") (by walk_at "NTa"))))
  k_with "NT call ref" => (k_here; (with_reducible show wpAny _ _ (PySem.call (Value.ref 695) _ _) _ _ _); k_dflt (refine' Does.use (c_low _ _ _ _ _ ?ha ?hb) ?k1 ?k2 ?k3 ?k4 ?k5 ?kK ?kd ?ku ?_; (case k1 => k_asm); (case k2 => k_asm); (case k3 => k_asm); (case k4 => k_asm); (case k5 => k_asm); (case kK => first | exact rfl | assumption); (case kd => ktr_room); (case ku => ktr_units); (case ha => omega); (case hb => omega); intro r9 tl9 h9 tk9 F9 N9 ho9; obtain ⟨a9, p9, q9, u9, v9, e9, hm9, hp9, hq9⟩ := ho9; subst e9; subst hp9; subst hq9; (try dsimp only); (try k_fold)))
  k_with "NT call ref" => (k_here; (with_reducible show wpAny _ _ (PySem.call (Value.ref 96) _ _) _ _ _); k_dflt (refine' Does.use (c_Real _ _ _ _ _) ?k1 ?k2 ?k3 ?k4 ?k5 ?kK ?kd ?ku ?_; (case k1 => k_asm); (case k2 => k_asm); (case k3 => k_asm); (case k4 => k_asm); (case k5 => k_asm); (case kK => first | exact rfl | assumption); (case kd => ktr_room); (case ku => ktr_units);  intro r9 tl9 h9 tk9 F9 N9 ho9; (try dsimp only); (try k_fold)))
  k_with "NT call ref" => (k_here; (with_reducible show wpAny _ _ (PySem.call (Value.ref 264) _ _) _ _ _); k_dflt (refine' Does.use (c_Ratio _ _ _ _ _) ?k1 ?k2 ?k3 ?k4 ?k5 ?kK ?kd ?ku ?_; (case k1 => k_asm); (case k2 => k_asm); (case k3 => k_asm); (case k4 => k_asm); (case k5 => k_asm); (case kK => first | exact rfl | assumption); (case kd => ktr_room); (case ku => ktr_units);  intro r9 tl9 h9 tk9 F9 N9 ho9; (try dsimp only); (try k_fold)))
  k_with "NT call ref" => (k_here; (with_reducible show wpAny _ _ (PySem.call (Value.ref 107) _ _) _ _ _); k_dflt (refine' Does.use (c_size _ _ _) ?k1 ?k2 ?k3 ?k4 ?k5 ?kK ?kd ?ku ?_; (case k1 => k_asm); (case k2 => k_asm); (case k3 => k_asm); (case k4 => k_asm); (case k5 => k_asm); (case kK => first | exact rfl | assumption); (case kd => ktr_room); (case ku => ktr_units);  intro r9 tl9 h9 tk9 F9 N9 ho9; obtain ⟨u9, e9⟩ := ho9; subst e9; (try dsimp only); (try k_fold)))
  k_with "NT call ref" => (k_here; (with_reducible show wpAny _ _ (PySem.call (Value.ref 114) _ _) _ _ _); k_dflt (refine' Does.use (c_sow _ _ _) ?k1 ?k2 ?k3 ?k4 ?k5 ?kK ?kd ?ku ?_; (case k1 => k_asm); (case k2 => k_asm); (case k3 => k_asm); (case k4 => k_asm); (case k5 => k_asm); (case kK => first | exact rfl | assumption); (case kd => ktr_room); (case ku => ktr_units);  intro r9 tl9 h9 tk9 F9 N9 ho9; obtain ⟨u9, e9⟩ := ho9; subst e9; (try dsimp only); (try k_fold)))
  k_with "NT call ref" => (k_here; (with_reducible show wpAny _ _ (PySem.call (Value.ref 121) _ _) _ _ _); k_dflt (refine' Does.use (c_zeros _ _ _ _ _ ?ha) ?k1 ?k2 ?k3 ?k4 ?k5 ?kK ?kd ?ku ?_; (case k1 => k_asm); (case k2 => k_asm); (case k3 => k_asm); (case k4 => k_asm); (case k5 => k_asm); (case kK => first | exact rfl | assumption); (case kd => ktr_room); (case ku => ktr_units); (case ha => assumption); intro r9 tl9 h9 tk9 F9 N9 ho9; obtain ⟨u9, e9⟩ := ho9; subst e9; (try dsimp only); (try k_fold)))
  k_with "NT call ref" => (k_here; (with_reducible show wpAny _ _ (PySem.call (Value.ref 128) _ _) _ _ _); k_dflt (refine' Does.use (c_lean _ _ _ _ _ ?ha ?ha2 ?hb ?hc) ?k1 ?k2 ?k3 ?k4 ?k5 ?kK ?kd ?ku ?_; (case k1 => k_asm); (case k2 => k_asm); (case k3 => k_asm); (case k4 => k_asm); (case k5 => k_asm); (case kK => first | exact rfl | assumption); (case kd => ktr_room); (case ku => ktr_units); (case ha => first | (walk_at "NTa") | exact (signMul (by omega) (by omega)).1); (case ha2 => first | (walk_at "NTa") | exact (signMul (by omega) (by omega)).2); (case hb => (walk_at "NTa")); (case hc => (walk_at "NTa")); intro r9 tl9 h9 tk9 F9 N9 ho9; obtain ⟨m9, e9, hm9, hn9⟩ := ho9; (try dsimp only); (try k_fold)))
  k_with "NT call ref" => (k_here; (with_reducible show wpAny _ _ (PySem.call (Value.ref 135) _ _) _ _ _); k_dflt (refine' Does.use (c_nshift _ _ _ _ _ ?ha ?hb ?hc) ?k1 ?k2 ?k3 ?k4 ?k5 ?kK ?kd ?ku ?_; (case k1 => k_asm); (case k2 => k_asm); (case k3 => k_asm); (case k4 => k_asm); (case k5 => k_asm); (case kK => first | exact rfl | assumption); (case kd => ktr_room); (case ku => ktr_units); (case ha => (walk_at "NTa")); (case hb => (walk_at "NTa")); (case hc => (walk_at "NTa")); intro r9 tl9 h9 tk9 F9 N9 ho9; obtain ⟨R9, u9, e9, hR9, hlo9, hhi9⟩ := ho9; subst e9; (try dsimp only); (try k_fold)))
  k_with "NT call ref" => (k_here; (with_reducible show wpAny _ _ (PySem.call (Value.ref 149) _ _) _ _ _); k_dflt (refine' Does.use (c_sticky _ _ _ _ ?ha ?hb) ?k1 ?k2 ?k3 ?k4 ?k5 ?kK ?kd ?ku ?_; (case k1 => k_asm); (case k2 => k_asm); (case k3 => k_asm); (case k4 => k_asm); (case k5 => k_asm); (case kK => first | exact rfl | assumption); (case kd => ktr_room); (case ku => ktr_units); (case ha => (walk_at "NTa")); (case hb => (walk_at "NTa")); intro r9 tl9 h9 tk9 F9 N9 ho9; obtain ⟨u9, e9⟩ := ho9; subst e9; (try dsimp only); (try k_fold)))
  k_with "NT call ref" => (k_here; (with_reducible show wpAny _ _ (PySem.call (Value.ref 142) _ _) _ _ _); k_dflt (refine' Does.use (c_sround _ _ _ _ _ _ _ ?ha ?hb ?hc ?hd ?he ?hf) ?k1 ?k2 ?k3 ?k4 ?k5 ?kK ?kd ?ku ?_; (case k1 => k_asm); (case k2 => k_asm); (case k3 => k_asm); (case k4 => k_asm); (case k5 => k_asm); (case kK => first | exact rfl | assumption); (case kd => ktr_room); (case ku => ktr_units); (case ha => (walk_at "NTa")); (case hb => (walk_at "NTa")); (case hc => (walk_at "NTa")); (case hd => (walk_at "NTa")); (case he => (walk_at "NTa")); (case hf => (walk_at "NTa")); intro r9 tl9 h9 tk9 F9 N9 ho9; obtain ⟨R9, m9, e9, hm9, hR9, hn9⟩ := ho9; (try dsimp only); (try k_fold)))
  k_with "NT call ref" => (k_here; (with_reducible show wpAny _ _ (PySem.call (Value.ref 156) _ _) _ _ _); k_dflt (refine' Does.use (c_rounded _ _ _ _ _ _ _ ?ha ?hb ?hc ?hd ?he ?hf) ?k1 ?k2 ?k3 ?k4 ?k5 ?kK ?kd ?ku ?_; (case k1 => k_asm); (case k2 => k_asm); (case k3 => k_asm); (case k4 => k_asm); (case k5 => k_asm); (case kK => first | exact rfl | assumption); (case kd => ktr_room); (case ku => ktr_units); (case ha => (walk_at "NTa")); (case hb => (walk_at "NTa")); (case hc => (walk_at "NTa")); (case hd => (walk_at "NTa")); (case he => (walk_at "NTa")); (case hf => (walk_at "NTa")); intro r9 tl9 h9 tk9 F9 N9 ho9; obtain ⟨m9, e9, hm9, hs9⟩ := ho9; (try dsimp only); (try k_fold)))
  k_with "NT call ref" => (k_here; (with_reducible show wpAny _ _ (PySem.call (Value.ref 163) _ _) _ _ _); k_dflt (refine' Does.use (c_exparts _ _ _ _ ?ha ?hb ?hc ?hd ?he) ?k1 ?k2 ?k3 ?k4 ?k5 ?kK ?kd ?ku ?_; (case k1 => k_asm); (case k2 => k_asm); (case k3 => k_asm); (case k4 => k_asm); (case k5 => k_asm); (case kK => first | exact rfl | assumption); (case kd => ktr_room); (case ku => ktr_units); (case ha => (walk_at "NTn")); (case hb => (walk_at "NTa")); (case hc => (walk_at "NTa")); (case hd => (walk_at "NTa")); (case he => (walk_at "NTa")); intro r9 tl9 h9 tk9 F9 N9 ho9; obtain ⟨a9, p9, q9, u9, v9, e9, hm9, hp9, hq9⟩ := ho9; subst e9; subst hp9; subst hq9; (try dsimp only); (try k_fold)))
  k_with "NT call ref" => (k_here; (with_reducible show wpAny _ _ (PySem.call (Value.ref 170) _ _) _ _ _); k_dflt (refine' Does.use (c_place _ _ _ _ ?ha) ?k1 ?k2 ?k3 ?k4 ?k5 ?kK ?kd ?ku ?_; (case k1 => k_asm); (case k2 => k_asm); (case k3 => k_asm); (case k4 => k_asm); (case k5 => k_asm); (case kK => first | exact rfl | assumption); (case kd => ktr_room); (case ku => ktr_units); (case ha => (walk_at "NTn")); intro r9 tl9 h9 tk9 F9 N9 ho9; obtain ⟨u9, e9⟩ := ho9; subst e9; (try dsimp only); (try k_fold)))
  k_with "NT call ref" => (k_here; (with_reducible show wpAny _ _ (PySem.call (Value.ref 177) _ _) _ _ _); k_dflt (refine' Does.use (c_signof _ _ _ _ ?ha) ?k1 ?k2 ?k3 ?k4 ?k5 ?kK ?kd ?ku ?_; (case k1 => k_asm); (case k2 => k_asm); (case k3 => k_asm); (case k4 => k_asm); (case k5 => k_asm); (case kK => first | exact rfl | assumption); (case kd => ktr_room); (case ku => ktr_units); (case ha => (walk_at "NTn")); intro r9 tl9 h9 tk9 F9 N9 ho9; obtain ⟨u9, e9⟩ := ho9; subst e9; (try dsimp only); (try k_fold)))
  k_with "NT call ref" => (k_here; (with_reducible show wpAny _ _ (PySem.call (Value.ref 184) _ _) _ _ _); k_dflt (refine' Does.use (c_negative _ _ _ _ ?ha) ?k1 ?k2 ?k3 ?k4 ?k5 ?kK ?kd ?ku ?_; (case k1 => k_asm); (case k2 => k_asm); (case k3 => k_asm); (case k4 => k_asm); (case k5 => k_asm); (case kK => first | exact rfl | assumption); (case kd => ktr_room); (case ku => ktr_units); (case ha => (walk_at "NTn")); intro r9 tl9 h9 tk9 F9 N9 ho9; (try dsimp only); (try k_fold)))
  k_with "NT call ref" => (k_here; (with_reducible show wpAny _ _ (PySem.call (Value.ref 191) _ _) _ _ _); k_dflt (refine' Does.use (c_magnitude _ _ _ _ ?ha) ?k1 ?k2 ?k3 ?k4 ?k5 ?kK ?kd ?ku ?_; (case k1 => k_asm); (case k2 => k_asm); (case k3 => k_asm); (case k4 => k_asm); (case k5 => k_asm); (case kK => first | exact rfl | assumption); (case kd => ktr_room); (case ku => ktr_units); (case ha => (walk_at "NTn")); intro r9 tl9 h9 tk9 F9 N9 ho9; (try dsimp only); (try k_fold)))
  k_with "NT call ref" => (k_here; (with_reducible show wpAny _ _ (PySem.call (Value.ref 198) _ _) _ _ _); k_dflt (refine' Does.use (c_same _ _ _ _ _ _ _ ?ha ?hb) ?k1 ?k2 ?k3 ?k4 ?k5 ?kK ?kd ?ku ?_; (case k1 => k_asm); (case k2 => k_asm); (case k3 => k_asm); (case k4 => k_asm); (case k5 => k_asm); (case kK => first | exact rfl | assumption); (case kd => ktr_room); (case ku => ktr_units); (case ha => (walk_at "NTn")); (case hb => (walk_at "NTn")); intro r9 tl9 h9 tk9 F9 N9 ho9; (have e9 : _ = _ := ho9); clear ho9; subst e9; (try dsimp only); (try k_fold)))
  k_with "NT call ref" => (k_here; (with_reducible show wpAny _ _ (PySem.call (Value.ref 205) _ _) _ _ _); k_dflt (refine' Does.use (c_cmpmag _ _ _ _ _ _ _ ?ha ?hb ?hc ?hd ?he ?hf ?hg ?hh ?hi ?hj) ?k1 ?k2 ?k3 ?k4 ?k5 ?kK ?kd ?ku ?_; (case k1 => k_asm); (case k2 => k_asm); (case k3 => k_asm); (case k4 => k_asm); (case k5 => k_asm); (case kK => first | exact rfl | assumption); (case kd => ktr_room); (case ku => ktr_units); (case ha => (walk_at "NTn")); (case hb => (walk_at "NTn")); (case hc => (walk_at "NTa")); (case hd => (walk_at "NTa")); (case he => (walk_at "NTa")); (case hf => (walk_at "NTa")); (case hg => (walk_at "NTa")); (case hh => (walk_at "NTa")); (case hi => (walk_at "NTa")); (case hj => (walk_at "NTa")); intro r9 tl9 h9 tk9 F9 N9 ho9; obtain ⟨u9, e9⟩ := ho9; subst e9; (try dsimp only); (try k_fold)))
  k_with "NT call ref" => (k_here; (with_reducible show wpAny _ _ (PySem.call (Value.ref 212) _ _) _ _ _); k_dflt (refine' Does.use (c_cmpreals _ _ _ _ _ _ _ ?ha ?hb ?hc ?hd ?he ?hf ?hg ?hh ?hi ?hj) ?k1 ?k2 ?k3 ?k4 ?k5 ?kK ?kd ?ku ?_; (case k1 => k_asm); (case k2 => k_asm); (case k3 => k_asm); (case k4 => k_asm); (case k5 => k_asm); (case kK => first | exact rfl | assumption); (case kd => ktr_room); (case ku => ktr_units); (case ha => (walk_at "NTn")); (case hb => (walk_at "NTn")); (case hc => (walk_at "NTa")); (case hd => (walk_at "NTa")); (case he => (walk_at "NTa")); (case hf => (walk_at "NTa")); (case hg => (walk_at "NTa")); (case hh => (walk_at "NTa")); (case hi => (walk_at "NTa")); (case hj => (walk_at "NTa")); intro r9 tl9 h9 tk9 F9 N9 ho9; obtain ⟨u9, e9⟩ := ho9; subst e9; (try dsimp only); (try k_fold)))
  k_with "NT call ref" => (k_here; (with_reducible show wpAny _ _ (PySem.call (Value.ref 219) _ _) _ _ _); k_dflt (refine' Does.use (c_fullm _ _ _ _ _ _ ?ha ?hb ?hc ?hd ?he) ?k1 ?k2 ?k3 ?k4 ?k5 ?kK ?kd ?ku ?_; (case k1 => k_asm); (case k2 => k_asm); (case k3 => k_asm); (case k4 => k_asm); (case k5 => k_asm); (case kK => first | exact rfl | assumption); (case kd => ktr_room); (case ku => ktr_units); (case ha => (walk_at "NTn")); (case hb => (walk_at "NTa")); (case hc => (walk_at "NTa")); (case hd => (walk_at "NTa")); (case he => (walk_at "NTa")); intro r9 tl9 h9 tk9 F9 N9 ho9; obtain ⟨a9, P9, u9, v9, e9, hm9, hP9⟩ := ho9; subst e9; subst hP9; (try dsimp only); (try k_fold)))
  k_with "NT call ref" => (k_here; (with_reducible show wpAny _ _ (PySem.call (Value.ref 226) _ _) _ _ _); k_dflt (refine' Does.use (c_farther _ _ _ _ _ _ ?ha ?hb ?hc ?hd ?he ?hf ?hg ?hh ?hi) ?k1 ?k2 ?k3 ?k4 ?k5 ?kK ?kd ?ku ?_; (case k1 => k_asm); (case k2 => k_asm); (case k3 => k_asm); (case k4 => k_asm); (case k5 => k_asm); (case kK => first | exact rfl | assumption); (case kd => ktr_room); (case ku => ktr_units); (case ha => (walk_at "NTn")); (case hb => (walk_at "NTa")); (case hc => (walk_at "NTa")); (case hd => (walk_at "NTa")); (case he => (walk_at "NTa")); (case hf => (walk_at "NTa")); (case hg => (walk_at "NTa")); (case hh => (walk_at "NTa")); (case hi => (walk_at "NTa")); intro r9 tl9 h9 tk9 F9 N9 ho9; obtain ⟨m9, e9, hm9, hn9⟩ := ho9; (try dsimp only); (try k_fold)))
  k_with "NT call ref" => (k_here; (with_reducible show wpAny _ _ (PySem.call (Value.ref 233) _ _) _ _ _); k_dflt (refine' Does.use (c_nearer _ _ _ _ _ _ ?ha ?hb ?hc ?hd ?he ?hf ?hg ?hh ?hi) ?k1 ?k2 ?k3 ?k4 ?k5 ?kK ?kd ?ku ?_; (case k1 => k_asm); (case k2 => k_asm); (case k3 => k_asm); (case k4 => k_asm); (case k5 => k_asm); (case kK => first | exact rfl | assumption); (case kd => ktr_room); (case ku => ktr_units); (case ha => (walk_at "NTn")); (case hb => (walk_at "NTa")); (case hc => (walk_at "NTa")); (case hd => (walk_at "NTa")); (case he => (walk_at "NTa")); (case hf => (walk_at "NTa")); (case hg => (walk_at "NTa")); (case hh => (walk_at "NTa")); (case hi => (walk_at "NTa")); intro r9 tl9 h9 tk9 F9 N9 ho9; obtain ⟨m9, e9, hm9, hn9⟩ := ho9; (try dsimp only); (try k_fold)))
  k_with "NT call ref" => (k_here; (with_reducible show wpAny _ _ (PySem.call (Value.ref 240) _ _) _ _ _); k_dflt (refine' Does.use (c_above _ _ _ _ _ _ ?ha ?hb ?hc ?hd ?he ?hf ?hg ?hh ?hi) ?k1 ?k2 ?k3 ?k4 ?k5 ?kK ?kd ?ku ?_; (case k1 => k_asm); (case k2 => k_asm); (case k3 => k_asm); (case k4 => k_asm); (case k5 => k_asm); (case kK => first | exact rfl | assumption); (case kd => ktr_room); (case ku => ktr_units); (case ha => (walk_at "NTn")); (case hb => (walk_at "NTa")); (case hc => (walk_at "NTa")); (case hd => (walk_at "NTa")); (case he => (walk_at "NTa")); (case hf => (walk_at "NTa")); (case hg => (walk_at "NTa")); (case hh => (walk_at "NTa")); (case hi => (walk_at "NTa")); intro r9 tl9 h9 tk9 F9 N9 ho9; obtain ⟨m9, e9, hm9, hn9⟩ := ho9; (try dsimp only); (try k_fold)))
  k_with "NT call ref" => (k_here; (with_reducible show wpAny _ _ (PySem.call (Value.ref 247) _ _) _ _ _); k_dflt (refine' Does.use (c_below _ _ _ _ _ _ ?ha ?hb ?hc ?hd ?he ?hf ?hg ?hh ?hi) ?k1 ?k2 ?k3 ?k4 ?k5 ?kK ?kd ?ku ?_; (case k1 => k_asm); (case k2 => k_asm); (case k3 => k_asm); (case k4 => k_asm); (case k5 => k_asm); (case kK => first | exact rfl | assumption); (case kd => ktr_room); (case ku => ktr_units); (case ha => (walk_at "NTn")); (case hb => (walk_at "NTa")); (case hc => (walk_at "NTa")); (case hd => (walk_at "NTa")); (case he => (walk_at "NTa")); (case hf => (walk_at "NTa")); (case hg => (walk_at "NTa")); (case hh => (walk_at "NTa")); (case hi => (walk_at "NTa")); intro r9 tl9 h9 tk9 F9 N9 ho9; obtain ⟨m9, e9, hm9, hn9⟩ := ho9; (try dsimp only); (try k_fold)))
  k_with "NT call builtin:isinstance" => (k_here; (with_reducible show wpAny _ _ (PySem.call (Value.builtin "isinstance") [_, Value.ref 96]) _ _ _); k_dflt (refine' isi_num ?k1 ?k2 ?k3 ?k4 ?k5 ?_; (case k1 => k_asm); (case k2 => k_asm); (case k3 => k_asm); (case k4 => walk_at "NTn"); (case k5 => first | assumption | exact rfl); k_whole; intro tk9; (try dsimp only [Num.isReal])))
  k_with "NT call ref" => (k_here; (with_reducible show wpAny _ _ (PySem.call (Value.ref 345) _ _) _ _ _); k_dflt (refine' Does.use (c_isinexact _ _ _ ?ha) ?k1 ?k2 ?k3 ?k4 ?k5 ?kK ?kd ?ku ?_; (case k1 => k_asm); (case k2 => k_asm); (case k3 => k_asm); (case k4 => k_asm); (case k5 => k_asm); (case kK => first | exact rfl | assumption); (case kd => ktr_room); (case ku => ktr_units); (case ha => (walk_at "NTn")); intro r9 tl9 h9 tk9 F9 N9 ho9; (have e9 : _ = _ := ho9); clear ho9; subst e9; (try dsimp only); (try k_fold)))
  k_with "NT call ref" => (k_here; (with_reducible show wpAny _ _ (PySem.call (Value.ref 282) _ _) _ _ _); k_dflt (refine' Does.use (c_isexact _ _ _ ?ha) ?k1 ?k2 ?k3 ?k4 ?k5 ?kK ?kd ?ku ?_; (case k1 => k_asm); (case k2 => k_asm); (case k3 => k_asm); (case k4 => k_asm); (case k5 => k_asm); (case kK => first | exact rfl | assumption); (case kd => ktr_room); (case ku => ktr_units); (case ha => (walk_at "NTn")); intro r9 tl9 h9 tk9 F9 N9 ho9; (have e9 : _ = _ := ho9); clear ho9; subst e9; (try dsimp only); (try k_fold)))
  k_with "NT call ref" => (k_here; (with_reducible show wpAny _ _ (PySem.call (Value.ref 289) _ _) _ _ _); k_dflt (refine' Does.use (c_topof _ _ _ ?ha ?hb) ?k1 ?k2 ?k3 ?k4 ?k5 ?kK ?kd ?ku ?_; (case k1 => k_asm); (case k2 => k_asm); (case k3 => k_asm); (case k4 => k_asm); (case k5 => k_asm); (case kK => first | exact rfl | assumption); (case kd => ktr_room); (case ku => ktr_units); (case ha => (walk_at "NTn")); (case hb => first | assumption | rfl); intro r9 tl9 h9 tk9 F9 N9 ho9; obtain ⟨u9, e9⟩ := ho9; subst e9; (try dsimp only); (try k_fold)))
  k_with "NT call ref" => (k_here; (with_reducible show wpAny _ _ (PySem.call (Value.ref 296) _ _) _ _ _); k_dflt (refine' Does.use (c_bottomof _ _ _ ?ha ?hb) ?k1 ?k2 ?k3 ?k4 ?k5 ?kK ?kd ?ku ?_; (case k1 => k_asm); (case k2 => k_asm); (case k3 => k_asm); (case k4 => k_asm); (case k5 => k_asm); (case kK => first | exact rfl | assumption); (case kd => ktr_room); (case ku => ktr_units); (case ha => (walk_at "NTn")); (case hb => first | assumption | rfl); intro r9 tl9 h9 tk9 F9 N9 ho9; obtain ⟨u9, e9⟩ := ho9; subst e9; (try dsimp only); (try k_fold)))
  k_with "NT call ref" => (k_here; (with_reducible show wpAny _ _ (PySem.call (Value.ref 177) _ _) _ _ _); k_dflt (refine' Does.use (c_signof' _ _ _ ?ha ?hb) ?k1 ?k2 ?k3 ?k4 ?k5 ?kK ?kd ?ku ?_; (case k1 => k_asm); (case k2 => k_asm); (case k3 => k_asm); (case k4 => k_asm); (case k5 => k_asm); (case kK => first | exact rfl | assumption); (case kd => ktr_room); (case ku => ktr_units); (case ha => (walk_at "NTn")); (case hb => first | assumption | rfl); intro r9 tl9 h9 tk9 F9 N9 ho9; obtain ⟨u9, e9⟩ := ho9; subst e9; (try dsimp only); (try k_fold)))
  k_with "NT call ref" => (k_here; (with_reducible show wpAny _ _ (PySem.call (Value.ref 212) _ _) _ _ _); k_dflt (refine' Does.use (c_cmpreals' _ _ _ _ _ _ ?ha ?hb ?hc ?hd ?he ?hf ?hg) ?k1 ?k2 ?k3 ?k4 ?k5 ?kK ?kd ?ku ?_; (case k1 => k_asm); (case k2 => k_asm); (case k3 => k_asm); (case k4 => k_asm); (case k5 => k_asm); (case kK => first | exact rfl | assumption); (case kd => ktr_room); (case ku => ktr_units); (case ha => (walk_at "NTn")); (case hb => (walk_at "NTn")); (case hc => first | assumption | rfl); (case hd => first | assumption | rfl); (case he => (walk_at "NTa")); (case hf => (walk_at "NTo")); (case hg => (walk_at "NTo")); intro r9 tl9 h9 tk9 F9 N9 ho9; obtain ⟨u9, e9⟩ := ho9; subst e9; (try dsimp only); (try k_fold)))
  k_with "NT call ref" => (k_here; (with_reducible show wpAny _ _ (PySem.call (Value.ref 198) _ _) _ _ _); k_dflt (refine' Does.use (c_same' _ _ _ _ _ _ ?ha ?hb ?hc ?hd ?hf ?hg) ?k1 ?k2 ?k3 ?k4 ?k5 ?kK ?kd ?ku ?_; (case k1 => k_asm); (case k2 => k_asm); (case k3 => k_asm); (case k4 => k_asm); (case k5 => k_asm); (case kK => first | exact rfl | assumption); (case kd => ktr_room); (case ku => ktr_units); (case ha => (walk_at "NTn")); (case hb => (walk_at "NTn")); (case hc => first | assumption | rfl); (case hd => first | assumption | rfl); (case hf => (walk_at "NTo")); (case hg => (walk_at "NTo")); intro r9 tl9 h9 tk9 F9 N9 ho9; (have e9 : _ = _ := ho9); clear ho9; subst e9; (try dsimp only); (try k_fold)))
  k_with "NT call ref" => (k_here; (with_reducible show wpAny _ _ (PySem.call (Value.ref 163) _ _) _ _ _); k_dflt (refine' Does.use (c_exparts' _ _ _ _ ?ha ?hb ?hc ?hd) ?k1 ?k2 ?k3 ?k4 ?k5 ?kK ?kd ?ku ?_; (case k1 => k_asm); (case k2 => k_asm); (case k3 => k_asm); (case k4 => k_asm); (case k5 => k_asm); (case kK => first | exact rfl | assumption); (case kd => ktr_room); (case ku => ktr_units); (case ha => (walk_at "NTn")); (case hb => first | assumption | rfl); (case hc => (walk_at "NTa")); (case hd => (walk_at "NTo")); intro r9 tl9 h9 tk9 F9 N9 ho9; obtain ⟨a9, p9, q9, u9, v9, e9, hm9, hp9, hq9⟩ := ho9; subst e9; subst hp9; subst hq9; (try dsimp only); (try k_fold)))
  k_with "NT call ref" => (k_here; (with_reducible show wpAny _ _ (PySem.call (Value.ref 352) _ _) _ _ _); k_dflt (refine' Does.use (c_sign _ _ _ ?ha) ?k1 ?k2 ?k3 ?k4 ?k5 ?kK ?kd ?ku ?_; (case k1 => k_asm); (case k2 => k_asm); (case k3 => k_asm); (case k4 => k_asm); (case k5 => k_asm); (case kK => first | exact rfl | assumption); (case kd => ktr_room); (case ku => ktr_units); (case ha => (walk_at "NTn")); intro r9 tl9 h9 tk9 F9 N9 ho9; obtain ⟨u9, e9⟩ := ho9; subst e9; (try dsimp only); (try k_fold)))
  k_with "NT call ref" => (k_here; (with_reducible show wpAny _ _ (PySem.call (Value.ref 331) _ _) _ _ _); k_dflt (refine' Does.use (c_cmpexact _ _ _ _ _ ?ha ?hb ?hc ?hd ?he ?hf ?hg ?hh) ?k1 ?k2 ?k3 ?k4 ?k5 ?kK ?kd ?ku ?_; (case k1 => k_asm); (case k2 => k_asm); (case k3 => k_asm); (case k4 => k_asm); (case k5 => k_asm); (case kK => first | exact rfl | assumption); (case kd => ktr_room); (case ku => ktr_units); (case ha => (walk_at "NTn")); (case hb => (walk_at "NTn")); (case hc => first | assumption | rfl | exact ex_isReal _); (case hd => first | assumption | rfl | exact ex_isReal _); (case he => (walk_at "NTa")); (case hf => (walk_at "NTa")); (case hg => (walk_at "NTa")); (case hh => (walk_at "NTa")); intro r9 tl9 h9 tk9 F9 N9 ho9; obtain ⟨u9, e9⟩ := ho9; subst e9; (try dsimp only); (try k_fold)))
  k_with "NT call ref" => (k_here; (with_reducible show wpAny _ _ (PySem.call (Value.ref 338) _ _) _ _ _); k_dflt (refine' Does.use (c_eqexact _ _ _ _ _ _ ?ha ?hb ?hc ?hd ?hf ?hg) ?k1 ?k2 ?k3 ?k4 ?k5 ?kK ?kd ?ku ?_; (case k1 => k_asm); (case k2 => k_asm); (case k3 => k_asm); (case k4 => k_asm); (case k5 => k_asm); (case kK => first | exact rfl | assumption); (case kd => ktr_room); (case ku => ktr_units); (case ha => (walk_at "NTn")); (case hb => (walk_at "NTn")); (case hc => first | assumption | rfl); (case hd => first | assumption | rfl); (case hf => (walk_at "NTo")); (case hg => (walk_at "NTo")); intro r9 tl9 h9 tk9 F9 N9 ho9; (have e9 : _ = _ := ho9); clear ho9; subst e9; (try dsimp only); (try k_fold)))
  k_with "NT call ref" => (k_here; (with_reducible show wpAny _ _ (PySem.call (Value.ref 303) _ _) _ _ _); k_dflt (refine' Does.use (c_gcdof _ _ _ _ _) ?k1 ?k2 ?k3 ?k4 ?k5 ?kK ?kd ?ku ?_; (case k1 => k_asm); (case k2 => k_asm); (case k3 => k_asm); (case k4 => k_asm); (case k5 => k_asm); (case kK => first | exact rfl | assumption); (case kd => ktr_room); (case ku => ktr_units);  intro r9 tl9 h9 tk9 F9 N9 ho9; obtain ⟨u9, e9⟩ := ho9; subst e9; (try dsimp only); (try k_fold)))
  k_with "NT call ref" => (k_here; (with_reducible show wpAny _ _ (PySem.call (Value.ref 317) _ _) _ _ _); k_dflt (refine' Does.use (c_ratioof _ _ _ _ _ ?ha ?hb) ?k1 ?k2 ?k3 ?k4 ?k5 ?kK ?kd ?ku ?_; (case k1 => k_asm); (case k2 => k_asm); (case k3 => k_asm); (case k4 => k_asm); (case k5 => k_asm); (case kK => first | exact rfl | assumption); (case kd => ktr_room); (case ku => ktr_units); (case ha => (walk_at "NTa")); (case hb => (walk_at "NTa")); intro r9 tl9 h9 tk9 F9 N9 ho9; (try dsimp only); (try k_fold)))
  k_with "NT call ref" => (k_here; (with_reducible show wpAny _ _ (PySem.call (Value.ref 359) _ _) _ _ _); k_dflt (refine' Does.use (c_toexact _ _ _ _ ?ha ?hb ?hc) ?k1 ?k2 ?k3 ?k4 ?k5 ?kK ?kd ?ku ?_; (case k1 => k_asm); (case k2 => k_asm); (case k3 => k_asm); (case k4 => k_asm); (case k5 => k_asm); (case kK => first | exact rfl | assumption); (case kd => ktr_room); (case ku => ktr_units); (case ha => (walk_at "NTn")); (case hb => (walk_at "NTa")); (case hc => (walk_at "NTo")); intro r9 tl9 h9 tk9 F9 N9 ho9; (try dsimp only); (try k_fold)))
  k_with "NT call ref" => (k_here; (with_reducible show wpAny _ _ (PySem.call (Value.ref 366) _ _) _ _ _); k_dflt (refine' Does.use (c_toinexact _ _ _ _ _ ?ha ?hb ?hc ?hd) ?k1 ?k2 ?k3 ?k4 ?k5 ?kK ?kd ?ku ?_; (case k1 => k_asm); (case k2 => k_asm); (case k3 => k_asm); (case k4 => k_asm); (case k5 => k_asm); (case kK => first | exact rfl | assumption); (case kd => ktr_room); (case ku => ktr_units); (case ha => (walk_at "NTn")); (case hb => (walk_at "NTa")); (case hc => (walk_at "NTa")); (case hd => (walk_at "NTo")); intro r9 tl9 h9 tk9 F9 N9 ho9; obtain ⟨m9, e9, hm9, hs9, ho9⟩ := ho9; (try dsimp only); (try k_fold)))
  k_with "NT call ref" => (k_here; (with_reducible show wpAny _ _ (PySem.call (Value.ref 387) _ _) _ _ _); k_dflt (refine' Does.use (c_compare _ _ _ _ _ _ ?ha ?hb ?hc ?hd ?he) ?k1 ?k2 ?k3 ?k4 ?k5 ?kK ?kd ?ku ?_; (case k1 => k_asm); (case k2 => k_asm); (case k3 => k_asm); (case k4 => k_asm); (case k5 => k_asm); (case kK => first | exact rfl | assumption); (case kd => ktr_room); (case ku => ktr_units); (case ha => (walk_at "NTn")); (case hb => (walk_at "NTn")); (case hc => (walk_at "NTa")); (case hd => (walk_at "NTo")); (case he => (walk_at "NTo")); intro r9 tl9 h9 tk9 F9 N9 ho9; obtain ⟨u9, e9⟩ := ho9; subst e9; (try dsimp only); (try k_fold)))
  k_with "NT call ref" => (k_here; (with_reducible show wpAny _ _ (PySem.call (Value.ref 394) _ _) _ _ _); k_dflt (refine' Does.use (c_samenum _ _ _ _ _ _ ?ha ?hb ?hc ?hd) ?k1 ?k2 ?k3 ?k4 ?k5 ?kK ?kd ?ku ?_; (case k1 => k_asm); (case k2 => k_asm); (case k3 => k_asm); (case k4 => k_asm); (case k5 => k_asm); (case kK => first | exact rfl | assumption); (case kd => ktr_room); (case ku => ktr_units); (case ha => (walk_at "NTn")); (case hb => (walk_at "NTn")); (case hc => (walk_at "NTo")); (case hd => (walk_at "NTo")); intro r9 tl9 h9 tk9 F9 N9 ho9; (have e9 : _ = _ := ho9); clear ho9; subst e9; (try dsimp only); (try k_fold)))
  k_with "NT call ref" => (k_here; (with_reducible show wpAny _ _ (PySem.call (Value.ref 373) _ _) _ _ _); k_dflt (refine' Does.use (c_hasinexact _ _ _ _ _ _ ?hl ?ha ?hb) ?k1 ?k2 ?k3 ?k4 ?k5 ?kK ?kd ?ku ?_; (case k1 => k_asm); (case k2 => k_asm); (case k3 => k_asm); (case k4 => k_asm); (case k5 => k_asm); (case kK => first | exact rfl | assumption); (case kd => ktr_room); (case ku => ktr_units); (case hl => walk_at "NTm"); (case ha => (walk_at "NTn")); (case hb => (walk_at "NTn")); intro r9 tl9 h9 tk9 F9 N9 ho9; (have e9 : _ = _ := ho9); clear ho9; subst e9; (try dsimp only); (try k_fold)))
  k_with "NT call ref" => (k_here; (with_reducible show wpAny _ _ (PySem.call (Value.ref 380) _ _) _ _ _); k_dflt (refine' Does.use (c_asof _ _ _ _ _ _ _ _ _ _ ?hl ?ha ?hb ?hc ?hd ?he ?hf) ?k1 ?k2 ?k3 ?k4 ?k5 ?kK ?kd ?ku ?_; (case k1 => k_asm); (case k2 => k_asm); (case k3 => k_asm); (case k4 => k_asm); (case k5 => k_asm); (case kK => first | exact rfl | assumption); (case kd => ktr_room); (case ku => ktr_units); (case hl => walk_at "NTm"); (case ha => (walk_at "NTn")); (case hb => (walk_at "NTn")); (case hc => (walk_at "NTn")); (case hd => (walk_at "NTa")); (case he => (walk_at "NTa")); (case hf => (walk_at "NTo")); intro r9 tl9 h9 tk9 F9 N9 ho9; obtain ⟨z9, hz9, hk9⟩ := ho9; (try dsimp only); (try k_fold)))
  k_with "NT call ref" => (k_here; (with_reducible show wpAny _ _ (PySem.call (Value.ref 583) _ _) _ _ _); k_dflt (refine' Does.use (c_greatest _ _ _ _ _ _ _ _ ?ht ?hl ?ha ?hb ?hc ?hd ?he ?hf) ?k1 ?k2 ?k3 ?k4 ?k5 ?kK ?kd ?ku ?_; (case k1 => k_asm); (case k2 => k_asm); (case k3 => k_asm); (case k4 => k_asm); (case k5 => k_asm); (case kK => first | exact rfl | assumption); (case kd => ktr_room); (case ku => ktr_units); (case ht => walk_at "NTt"); (case hl => walk_at "NTm"); (case ha => (walk_at "NTn")); (case hb => (walk_at "NTn")); (case hc => (walk_at "NTa")); (case hd => (walk_at "NTa")); (case he => (walk_at "NTo")); (case hf => (walk_at "NTo")); intro r9 tl9 h9 tk9 F9 N9 ho9; obtain ⟨z9, hz9, hk9⟩ := ho9; (try dsimp only); (try k_fold)))
  k_with "NT call ref" => (k_here; (with_reducible show wpAny _ _ (PySem.call (Value.ref 590) _ _) _ _ _); k_dflt (refine' Does.use (c_least _ _ _ _ _ _ _ _ ?ht ?hl ?ha ?hb ?hc ?hd ?he ?hf) ?k1 ?k2 ?k3 ?k4 ?k5 ?kK ?kd ?ku ?_; (case k1 => k_asm); (case k2 => k_asm); (case k3 => k_asm); (case k4 => k_asm); (case k5 => k_asm); (case kK => first | exact rfl | assumption); (case kd => ktr_room); (case ku => ktr_units); (case ht => walk_at "NTt"); (case hl => walk_at "NTm"); (case ha => (walk_at "NTn")); (case hb => (walk_at "NTn")); (case hc => (walk_at "NTa")); (case hd => (walk_at "NTa")); (case he => (walk_at "NTo")); (case hf => (walk_at "NTo")); intro r9 tl9 h9 tk9 F9 N9 ho9; obtain ⟨z9, hz9, hk9⟩ := ho9; (try dsimp only); (try k_fold)))
  k_with "NT call ref" => (k_here; (with_reducible show wpAny _ _ (PySem.call (Value.ref 716) _ _) _ _ _); k_dflt (refine' Does.use (c_lfrac _ _ _ _ ?ha ?hb ?hc) ?k1 ?k2 ?k3 ?k4 ?k5 ?kK ?kd ?ku ?_; (case k1 => k_asm); (case k2 => k_asm); (case k3 => k_asm); (case k4 => k_asm); (case k5 => k_asm); (case kK => first | exact rfl | assumption); (case kd => ktr_room); (case ku => ktr_units); (case ha => (walk_at "NTn")); (case hb => (walk_at "NTa")); (case hc => (walk_at "NTo")); intro r9 tl9 h9 tk9 F9 N9 ho9; obtain ⟨a9, s9, q9, u9, w9, e9, hm9, hp9, hq9⟩ := ho9; subst e9; subst hp9; subst hq9; (try dsimp only); (try k_fold)))
  k_with "NT call ref" => (k_here; (with_reducible show wpAny _ _ (PySem.call (Value.ref 737) _ _) _ _ _); k_dflt (refine' Does.use (c_lless _ _ _ _ _ _ ?ha ?hb ?hc ?hd ?he) ?k1 ?k2 ?k3 ?k4 ?k5 ?kK ?kd ?ku ?_; (case k1 => k_asm); (case k2 => k_asm); (case k3 => k_asm); (case k4 => k_asm); (case k5 => k_asm); (case kK => first | exact rfl | assumption); (case kd => ktr_room); (case ku => ktr_units); (case ha => (walk_at "NTn")); (case hb => (walk_at "NTn")); (case hc => (walk_at "NTa")); (case hd => (walk_at "NTo")); (case he => (walk_at "NTo")); intro r9 tl9 h9 tk9 F9 N9 ho9; obtain ⟨u9, e9⟩ := ho9; subst e9; (try dsimp only); (try k_fold)))
  k_with "NT call ref" => (k_here; (with_reducible show wpAny _ _ (PySem.call (Value.ref 723) _ _) _ _ _); k_dflt (refine' Does.use (c_lshownR _ _ _ _ ?ha) ?k1 ?k2 ?k3 ?k4 ?k5 ?kK ?kd ?ku ?_; (case k1 => k_asm); (case k2 => k_asm); (case k3 => k_asm); (case k4 => k_asm); (case k5 => k_asm); (case kK => first | exact rfl | assumption); (case kd => ktr_room); (case ku => ktr_units); (case ha => (walk_at "NTn")); intro r9 tl9 h9 tk9 F9 N9 ho9; obtain ⟨a9, u9, v9, w9, e9, hm9⟩ := ho9; subst e9; (try dsimp only); (try k_fold)))
  k_with "NT call ref" => (k_here; (with_reducible show wpAny _ _ (PySem.call (Value.ref 723) _ _) _ _ _); k_dflt (refine' Does.use (c_lshownE _ _ _ ?ha ?hb) ?k1 ?k2 ?k3 ?k4 ?k5 ?kK ?kd ?ku ?_; (case k1 => k_asm); (case k2 => k_asm); (case k3 => k_asm); (case k4 => k_asm); (case k5 => k_asm); (case kK => first | exact rfl | assumption); (case kd => ktr_room); (case ku => ktr_units); (case ha => (walk_at "NTn")); (case hb => first | assumption | exact ex_isReal _ | rfl); intro r9 tl9 h9 tk9 F9 N9 ho9; obtain ⟨a9, u9, v9, w9, e9, hm9⟩ := ho9; subst e9; (try dsimp only); (try k_fold)))
  k_with "NT call ref" => (k_here; (with_reducible show wpAny _ _ (PySem.call (Value.ref 709) _ _) _ _ _); k_dflt (refine' Does.use (c_lreal _ _ _ _ _) ?k1 ?k2 ?k3 ?k4 ?k5 ?kK ?kd ?ku ?_; (case k1 => k_asm); (case k2 => k_asm); (case k3 => k_asm); (case k4 => k_asm); (case k5 => k_asm); (case kK => first | exact rfl | assumption); (case kd => ktr_room); (case ku => ktr_units);  intro r9 tl9 h9 tk9 F9 N9 ho9; obtain ⟨m9, e9, hm9, hn9⟩ := ho9; (try dsimp only); (try k_fold)))
  k_with "NT call ref" => (k_here; (with_reducible show wpAny _ _ (PySem.call (Value.ref 702) _ _) _ _ _); k_dflt (refine' Does.use (c_lnear _ _ _ _ _ _ _ ?ha ?hb ?hc ?hd ?he ?hf) ?k1 ?k2 ?k3 ?k4 ?k5 ?kK ?kd ?ku ?_; (case k1 => k_asm); (case k2 => k_asm); (case k3 => k_asm); (case k4 => k_asm); (case k5 => k_asm); (case kK => first | exact rfl | assumption); (case kd => ktr_room); (case ku => ktr_units); (case ha => (walk_at "NTa")); (case hb => (walk_at "NTa")); (case hc => (walk_at "NTa")); (case hd => (walk_at "NTa")); (case he => (walk_at "NTa")); (case hf => (walk_at "NTa")); intro r9 tl9 h9 tk9 F9 N9 ho9; obtain ⟨a9, m9, e9, u9, w9, q9, hm9, hs9⟩ := ho9; subst q9; (try dsimp only); (try k_fold)))
  k_with "NT call ref" => (k_here; (with_reducible show wpAny _ _ (PySem.call (Value.ref 744) _ _) _ _ _); k_dflt (refine' Does.use (c_lnext _ _ _ _ _ _ _ _ ?ha ?hb ?hc ?hd ?he ?hf ?hg ?hh ?hi ?hj) ?k1 ?k2 ?k3 ?k4 ?k5 ?kK ?kd ?ku ?_; (case k1 => k_asm); (case k2 => k_asm); (case k3 => k_asm); (case k4 => k_asm); (case k5 => k_asm); (case kK => first | exact rfl | assumption); (case kd => ktr_room); (case ku => ktr_units); (case ha => (walk_at "NTn")); (case hb => (walk_at "NTa")); (case hc => (walk_at "NTa")); (case hd => (walk_at "NTa")); (case he => (walk_at "NTa")); (case hf => (walk_at "NTa")); (case hg => (walk_at "NTa")); (case hh => (walk_at "NTa")); (case hi => (walk_at "NTa")); (case hj => (walk_at "NTa")); intro r9 tl9 h9 tk9 F9 N9 ho9; obtain ⟨a9, m9, e9, u9, w9, x9, q9, hm9, hs9⟩ := ho9; subst q9; (try dsimp only); (try k_fold)))
  k_with "NT call ref" => (k_here; (with_reducible show wpAny _ _ (PySem.call (Value.ref 730) _ _) _ _ _); k_dflt (refine' Does.use (c_lnumber _ _ _ _ _ ?ha ?hb) ?k1 ?k2 ?k3 ?k4 ?k5 ?kK ?kd ?ku ?_; (case k1 => k_asm); (case k2 => k_asm); (case k3 => k_asm); (case k4 => k_asm); (case k5 => k_asm); (case kK => first | exact rfl | assumption); (case kd => ktr_room); (case ku => ktr_units); (case ha => (walk_at "NTa")); (case hb => (walk_at "NTa")); intro r9 tl9 h9 tk9 F9 N9 ho9; obtain ⟨x9, hx9, hk9⟩ := ho9; (try dsimp only); (try k_fold)))
  k_with "NT call ref" => (k_here; (with_reducible show wpAny _ _ (PySem.call (Value.ref 751) _ _) _ _ _); k_dflt (refine' Does.use (c_lsingle _ _ _ _ _ ?ha ?hb ?hc ?hd) ?k1 ?k2 ?k3 ?k4 ?k5 ?kK ?kd ?ku ?_; (case k1 => k_asm); (case k2 => k_asm); (case k3 => k_asm); (case k4 => k_asm); (case k5 => k_asm); (case kK => first | exact rfl | assumption); (case kd => ktr_room); (case ku => ktr_units); (case ha => (walk_at "NTn")); (case hb => (walk_at "NTa")); (case hc => (walk_at "NTa")); (case hd => (walk_at "NTo")); intro r9 tl9 h9 tk9 F9 N9 ho9; (have e9 : _ = _ := ho9); clear ho9; subst e9; (try dsimp only); (try k_fold)))
  k_with "NT storeName" => (k_here; k_dflt (refine' store_cell ?F ?N ?m ?s ?l ?lt ?c ?d ?_ ?a ?b; (case a => rfl); (case b => rfl); (case F => k_asm); (case N => k_asm); (case c => rfl); (case m => k_mem); (case d => k_asm); (case lt => exact Nat.lt_succ_self _); (case l => assumption); (case s => ktd_sub)); intro h' o' F' N' d'; (try dsimp only))
  k_with "NT call ref" => (k_here; (with_reducible show wpAny _ _ (PySem.call (Value.ref 723) _ _) _ _ _); k_dflt (refine' Does.use (c_lshown _ _ _ ?ha) ?k1 ?k2 ?k3 ?k4 ?k5 ?kK ?kd ?ku ?_; (case k1 => k_asm); (case k2 => k_asm); (case k3 => k_asm); (case k4 => k_asm); (case k5 => k_asm); (case kK => first | exact rfl | assumption); (case kd => ktr_room); (case ku => ktr_units); (case ha => (walk_at "NTn")); intro r9 tl9 h9 tk9 F9 N9 ho9; obtain ⟨a9, u9, v9, w9, e9, hm9⟩ := ho9; subst e9; (try dsimp only); (try k_fold)))
  k_with "NT call ref" => (k_here; (with_reducible show wpAny _ _ (PySem.call (Value.ref 756) _ _) _ _ _); k_dflt (refine' Does.use (c_lpair _ _ _ _ _ _ _ ?ht ?ha ?hb ?hc ?hd ?he ?hf) ?k1 ?k2 ?k3 ?k4 ?k5 ?kK ?kd ?ku ?_; (case k1 => k_asm); (case k2 => k_asm); (case k3 => k_asm); (case k4 => k_asm); (case k5 => k_asm); (case kK => first | exact rfl | assumption); (case kd => ktr_room); (case ku => ktr_units); (case ht => (walk_at "NTt")); (case ha => (walk_at "NTn")); (case hb => (walk_at "NTn")); (case hc => (walk_at "NTa")); (case hd => (walk_at "NTa")); (case he => (walk_at "NTo")); (case hf => (walk_at "NTo")); intro r9 tl9 h9 tk9 F9 N9 ho9; (have e9 : _ = _ := ho9); clear ho9; subst e9; (try dsimp only); (try k_fold)))
  trivial
end
section
/- names that stay taken: the head then makes no second copy of what it writes out -/
theorem hd.tw8402708867525963386 : True := trivial
theorem hd.tw4939806618220136289 : True := trivial
theorem hd.tw11528119907192423078 : True := trivial
theorem hd.tw750258003413561223 : True := trivial
theorem hd.tw1834268725903658291 : True := trivial
theorem hd.tw11405030249795169474 : True := trivial
theorem hd.tw4806382079891870612 : True := trivial
theorem hd.tw1757784495951322212 : True := trivial
theorem hd.tw14531707199524827708 : True := trivial
theorem hd.tw18241302492961473917 : True := trivial
theorem hd.tw3105171183047878011 : True := trivial
theorem hd.tw5604913226324568060 : True := trivial
theorem hd.tw12052965570888196142 : True := trivial
theorem hd.tw797935779403547363 : True := trivial
theorem hd.tw4758881175598673787 : True := trivial
theorem hd.tw17468248626876886293 : True := trivial
theorem hd.tw10064108895951246789 : True := trivial
theorem hd.tw8931820296937819173 : True := trivial
theorem hd.tw2437862130572765314 : True := trivial
theorem hd.tw11239567220681014817 : True := trivial
theorem hd.tw11825820184176752437 : True := trivial
theorem hd.tw7726230457881936307 : True := trivial
theorem hd.tw1637996125989266009 : True := trivial
theorem hd.tw1412293119679901277 : True := trivial
theorem hd.tw8383623742776107022 : True := trivial
theorem hd.tw16752560707206664919 : True := trivial
theorem hd.tw11787497836048494659 : True := trivial
theorem hd.tw11117341420496812090 : True := trivial
theorem hd.tw3289962498717942900 : True := trivial
theorem hd.tw2424730833223998082 : True := trivial
theorem hd.tw4901832398602053686 : True := trivial
theorem hd.tw4774087620707182542 : True := trivial
theorem hd.tw15576674879207730342 : True := trivial
theorem hd.tw1907886543595126254 : True := trivial
theorem hd.tw6145093757709436760 : True := trivial
theorem hd.tw10572316889118690723 : True := trivial
theorem hd.tw5952079283398117508 : True := trivial
theorem hd.tw3409207914875688541 : True := trivial
theorem hd.tw11527695394101863198 : True := trivial
theorem hd.tw9356302928046762152 : True := trivial
theorem hd.tw11650122626348590652 : True := trivial
theorem hd.tw12276807120804106804 : True := trivial
theorem hd.tw14948997497280782093 : True := trivial
theorem hd.tw11624012724896761193 : True := trivial
theorem hd.tw7444884740914441014 : True := trivial
theorem hd.tw7308533863092011280 : True := trivial
theorem hd.tw10610342351319032280 : True := trivial
theorem hd.tw9160923913973267890 : True := trivial
theorem hd.tw13138493391434170059 : True := trivial
theorem hd.tw5602363934784039358 : True := trivial
theorem hd.tw4379273607290489001 : True := trivial
theorem hd.tw10024397999680234873 : True := trivial
theorem hd.tw11559529964006626860 : True := trivial
theorem hd.tw15827440048800637514 : True := trivial
theorem hd.tw16534468636480770979 : True := trivial
theorem hd.tw5039311283806600680 : True := trivial
theorem hd.tw4379464183510303776 : True := trivial
theorem hd.tw15708023085011430220 : True := trivial
theorem hd.tw7195785941425636121 : True := trivial
theorem hd.tw12646957868060912460 : True := trivial
theorem hd.tw5837071999096879354 : True := trivial
theorem hd.tw11099550538415521021 : True := trivial
theorem hd.tw1139745798559439443 : True := trivial
theorem hd.tw3749449554754375120 : True := trivial
theorem hd.tw13040151868195740538 : True := trivial
theorem hd.tw18333732248371972371 : True := trivial
theorem hd.tw6915712898221914993 : True := trivial
theorem hd.tw7711113382980605648 : True := trivial
theorem hd.tw11629969260635806758 : True := trivial
theorem hd.tw12070758036947653833 : True := trivial
theorem hd.tw6414324319205777071 : True := trivial
theorem hd.tw8849599662785167390 : True := trivial
theorem hd.tw1965973019958591449 : True := trivial
theorem hd.tw16260459441948679602 : True := trivial
theorem hd.tw18170248860474664233 : True := trivial
theorem hd.tw954324890828426824 : True := trivial
theorem hd.tw15214446212550288435 : True := trivial
theorem hd.tw4935049896202387490 : True := trivial
theorem hd.tw9224307291144495687 : True := trivial
theorem hd.tw1851922333868914283 : True := trivial
theorem hd.tw12102487116103303347 : True := trivial
theorem hd.tw1438179886658193476 : True := trivial
theorem hd.tw1346643758093802874 : True := trivial
theorem hd.tw13074177431940731637 : True := trivial
theorem hd.tw14865745128774568806 : True := trivial
theorem hd.tw4077508252700015586 : True := trivial
theorem hd.tw2122313464702636250 : True := trivial
theorem hd.tw9789910475463000295 : True := trivial
theorem hd.tw6378960410941018970 : True := trivial
theorem hd.tw15739332219686630067 : True := trivial
theorem hd.tw5007167048961335758 : True := trivial
theorem hd.tw7238921909720240555 : True := trivial
theorem hd.tw14511683754362022978 : True := trivial
theorem hd.tw11535275529507725248 : True := trivial
theorem hd.tw353281134262433148 : True := trivial
theorem hd.tw16035427698487046489 : True := trivial
theorem hd.tw2771834474292039882 : True := trivial
theorem hd.tw10239389008137303748 : True := trivial
theorem hd.tw8249397117273661853 : True := trivial
theorem hd.tw10998647507705564612 : True := trivial
theorem hd.tw3031059282874445545 : True := trivial
theorem hd.tw13061511438220623498 : True := trivial
theorem hd.tw13344891103788761587 : True := trivial
theorem hd.tw569753071039048827 : True := trivial
theorem hd.tw17391751203762323090 : True := trivial
theorem hd.tw411081729163145826 : True := trivial
theorem hd.tw3201302154300555423 : True := trivial
theorem hd.tw10214581258496059205 : True := trivial
theorem hd.tw2773329623910692854 : True := trivial
theorem hd.tw461700895291368630 : True := trivial
theorem hd.tw11008681427979793257 : True := trivial
theorem hd.tw2730515459822453578 : True := trivial
theorem hd.tw16765916570310245134 : True := trivial
theorem hd.tw14493589423516707993 : True := trivial
theorem hd.tw17745133185049450861 : True := trivial
theorem hd.tw11258410951926048574 : True := trivial
theorem hd.tw5068926216950437635 : True := trivial
theorem hd.tw5861720614753434290 : True := trivial
theorem hd.tw6587534143302627595 : True := trivial
theorem hd.tw15303233753071406800 : True := trivial
theorem hd.tw10565896507587391506 : True := trivial
theorem hd.tw10150700328854497013 : True := trivial
theorem hd.tw3767428444552332029 : True := trivial
theorem hd.tw5911539486347730943 : True := trivial
theorem hd.tw7100962340531224745 : True := trivial
theorem hd.tw5532026186854828060 : True := trivial
theorem hd.tw12860472114882004982 : True := trivial
theorem hd.tw2625608301625897306 : True := trivial
theorem hd.tw4237551089470094659 : True := trivial
theorem hd.tw8724628859172033202 : True := trivial
theorem hd.tw13540834092298378442 : True := trivial
theorem hd.tw183129101989033464 : True := trivial
theorem hd.tw12095195143957711717 : True := trivial
theorem hd.tw15979775060045158029 : True := trivial
theorem hd.tw3440641331608282036 : True := trivial
theorem hd.tw10798502490268974899 : True := trivial
theorem hd.tw2219241612051420634 : True := trivial
theorem hd.tw16550034615994771579 : True := trivial
theorem hd.tw5413160306521386531 : True := trivial
theorem hd.tw13994081983532611797 : True := trivial
theorem hd.tw12895441723154338008 : True := trivial
theorem hd.tw18013588248533499963 : True := trivial
theorem hd.tw10890363218337833018 : True := trivial
theorem hd.tw18118440606289109987 : True := trivial
theorem hd.tw7679636381422430826 : True := trivial
theorem hd.tw4458030384352106328 : True := trivial
theorem hd.tw4880044016135476763 : True := trivial
theorem hd.tw17708096592233895522 : True := trivial
theorem hd.tw12155318145153064202 : True := trivial
theorem hd.tw13499614411921535460 : True := trivial
theorem hd.tw8772249760797795338 : True := trivial
theorem hd.tw9094837086822970416 : True := trivial
theorem hd.tw746754409623804060 : True := trivial
theorem hd.tw4167313731810126671 : True := trivial
theorem hd.tw3117338482507492722 : True := trivial
theorem hd.tw7619970365656053718 : True := trivial
theorem hd.tw3604165976834842543 : True := trivial
theorem hd.tw8215812969981795720 : True := trivial
theorem hd.tw17552405299716814785 : True := trivial
theorem hd.tw11748983516063873150 : True := trivial
theorem hd.tw1470471196053712662 : True := trivial
theorem hd.tw12040836764519675375 : True := trivial
theorem hd.tw4535905341068345967 : True := trivial
theorem hd.tw2391024780397860759 : True := trivial
theorem hd.tw9236265811317990004 : True := trivial
theorem hd.tw17993591633794635456 : True := trivial
theorem hd.tw2899448559827414451 : True := trivial
theorem hd.tw198217247875031884 : True := trivial
theorem hd.tw7804702219832705971 : True := trivial
theorem hd.tw8041944398004437736 : True := trivial
theorem hd.tw9245511552676527227 : True := trivial
theorem hd.tw6303277952857443431 : True := trivial
theorem hd.tw4992612450655373950 : True := trivial
theorem hd.tw11658908914820992439 : True := trivial
theorem hd.tw14709123872515825079 : True := trivial
theorem hd.tw6651250921515528088 : True := trivial
theorem hd.tw17829888708629660399 : True := trivial
theorem hd.tw10125687357056852559 : True := trivial
theorem hd.tw1352900390775908858 : True := trivial
theorem hd.tw10386979946441494473 : True := trivial
theorem hd.tw1342917469949297359 : True := trivial
theorem hd.tw3750860866989148132 : True := trivial
theorem hd.tw5968309066218659242 : True := trivial
theorem hd.tw2948861131693819754 : True := trivial
theorem hd.tw10012392452175197734 : True := trivial
theorem hd.tw203382372496498850 : True := trivial
theorem hd.tw2703615132501182075 : True := trivial
theorem hd.tw7664095650960686100 : True := trivial
theorem hd.tw4565018136514962862 : True := trivial
theorem hd.tw861276538901659801 : True := trivial
theorem hd.tw5231206924130341317 : True := trivial
theorem hd.tw1199674643516272116 : True := trivial
theorem hd.tw2653701139769370203 : True := trivial
theorem hd.tw10500523508771897013 : True := trivial
theorem hd.tw15934211126309974298 : True := trivial
theorem hd.tw10000362435973252064 : True := trivial
theorem hd.tw1668810664889735737 : True := trivial
theorem hd.tw13861654616629136823 : True := trivial
theorem hd.tw17362776571230188241 : True := trivial
theorem hd.tw10264720805141894918 : True := trivial
theorem hd.tw15511460421122809546 : True := trivial
theorem hd.tw16691083935600608339 : True := trivial
theorem hd.tw9630521173572952704 : True := trivial
theorem hd.tw16304025198282969022 : True := trivial
theorem hd.tw12204275809545002081 : True := trivial
theorem hd.tw1971637333643117522 : True := trivial
theorem hd.tw17317059535559620182 : True := trivial
theorem hd.tw12586398543640766591 : True := trivial
theorem hd.tw318939967584075568 : True := trivial
theorem hd.tw836159449513227486 : True := trivial
theorem hd.tw561420102223645765 : True := trivial
theorem hd.tw2797848331195417752 : True := trivial
theorem hd.tw13532963083476808887 : True := trivial
theorem hd.tw2234428629973372248 : True := trivial
theorem hd.tw5071409670407532040 : True := trivial
theorem hd.tw15609121546724334805 : True := trivial
theorem hd.tw7718988404898615497 : True := trivial
theorem hd.tw11527460337405685778 : True := trivial
theorem hd.tw12115482946341415689 : True := trivial
theorem hd.tw15801535150702090965 : True := trivial
theorem hd.tw1859961385428044045 : True := trivial
theorem hd.tw5198861950219277718 : True := trivial
theorem hd.tw11000175227313289194 : True := trivial
theorem hd.tw4825231185929427050 : True := trivial
theorem hd.tw5808517658317955562 : True := trivial
theorem hd.tw3619674284051755731 : True := trivial
theorem hd.tw8122049915508927584 : True := trivial
theorem hd.tw7862034510659821577 : True := trivial
theorem hd.tw5448395438844056852 : True := trivial
theorem hd.tw7434964179190190734 : True := trivial
theorem hd.tw9201652069381957960 : True := trivial
theorem hd.tw17386058027042238469 : True := trivial
theorem hd.tw5214408893883244330 : True := trivial
theorem hd.tw1394498746176101544 : True := trivial
theorem hd.tw465902142644926801 : True := trivial
theorem hd.tw12038823784490583456 : True := trivial
theorem hd.tw5945090510563944863 : True := trivial
theorem hd.tw3563955625153020990 : True := trivial
theorem hd.tw11177158882390696430 : True := trivial
theorem hd.tw16238164501417535689 : True := trivial
theorem hd.tw17009958202095166385 : True := trivial
theorem hd.tw3437162241576058844 : True := trivial
theorem hd.tw16162780152345234396 : True := trivial
theorem hd.tw1977705153145103081 : True := trivial
theorem hd.tw11672529579842689610 : True := trivial
theorem hd.tw2289129075776726557 : True := trivial
theorem hd.tw4903208329889161490 : True := trivial
theorem hd.tw12997545163513116720 : True := trivial
theorem hd.tw15728130358096718628 : True := trivial
theorem hd.tw11319868817188830994 : True := trivial
theorem hd.tw15927431838490901014 : True := trivial
theorem hd.tw9622399136695548095 : True := trivial
theorem hd.tw2951745965360167197 : True := trivial
theorem hd.tw306002027052652472 : True := trivial
theorem hd.tw5798515565246428134 : True := trivial
theorem hd.tw14297890044180425554 : True := trivial
theorem hd.tw8074913151243601853 : True := trivial
theorem hd.tw11273571814402186037 : True := trivial
theorem hd.tw6574971006367305893 : True := trivial
theorem hd.tw16140186464193881241 : True := trivial
theorem hd.tw6531463363514575770 : True := trivial
theorem hd.tw514632084073947356 : True := trivial
theorem hd.tw13489402639313141155 : True := trivial
theorem hd.tw753309660524682535 : True := trivial
theorem hd.tw2537455384477491743 : True := trivial
theorem hd.tw16688589834672673530 : True := trivial
theorem hd.tw16540436242926540212 : True := trivial
theorem hd.tw2996662741230199236 : True := trivial
theorem hd.tw17490727443794187350 : True := trivial
theorem hd.tw13020068651486981011 : True := trivial
theorem hd.tw15610464655362517878 : True := trivial
theorem hd.tw5305268787074568126 : True := trivial
theorem hd.tw8407422416716765159 : True := trivial
theorem hd.tw1713891304218344552 : True := trivial
theorem hd.tw5667065948452686666 : True := trivial
theorem hd.tw10232959235105318519 : True := trivial
theorem hd.tw3333324258121140801 : True := trivial
theorem hd.tw9746676363900560881 : True := trivial
theorem hd.tw3791252765606975487 : True := trivial
theorem hd.tw14466512280352553107 : True := trivial
theorem hd.tw13635555130060521435 : True := trivial
theorem hd.tw3163294936992048719 : True := trivial
theorem hd.tw2327693318763821545 : True := trivial
theorem hd.tw3803518901931244401 : True := trivial
theorem hd.tw7414495709443583580 : True := trivial
theorem hd.tw5353707440094746954 : True := trivial
theorem hd.tw4858863469523655322 : True := trivial
theorem hd.tw7969103198657269743 : True := trivial
theorem hd.tw11574567521278576486 : True := trivial
theorem hd.tw13589318430755701700 : True := trivial
theorem hd.tw1257005297738126893 : True := trivial
theorem hd.tw5240379220806172090 : True := trivial
theorem hd.tw7503872339243187958 : True := trivial
theorem hd.tw4457706186540828178 : True := trivial
theorem hd.tw18253726870660392182 : True := trivial
theorem hd.tw17986240063034215317 : True := trivial
theorem hd.tw2325639131289860013 : True := trivial
theorem hd.tw16975536162312193473 : True := trivial
theorem hd.tw11052639435675978903 : True := trivial
theorem hd.tw13078976140659621448 : True := trivial
theorem hd.tw11463831084344808624 : True := trivial
theorem hd.tw10605190228931497839 : True := trivial
theorem hd.tw2473956443114151241 : True := trivial
theorem hd.tw14377884090693481873 : True := trivial
theorem hd.tw13602454039248179009 : True := trivial
theorem hd.tw5505445908692744481 : True := trivial
theorem hd.tw14224934104269697353 : True := trivial
theorem hd.tw15417254272354114335 : True := trivial
theorem hd.tw8297738666660555400 : True := trivial
theorem hd.tw6123083540211050478 : True := trivial
theorem hd.tw7562828816321069676 : True := trivial
theorem hd.tw14923579264807203927 : True := trivial
theorem hd.tw17871566227713757025 : True := trivial
theorem hd.tw6538966877408612878 : True := trivial
theorem hd.tw3478120896844593009 : True := trivial
theorem hd.tw17131920250111418028 : True := trivial
theorem hd.tw14007083919574761169 : True := trivial
theorem hd.tw7558534268278775422 : True := trivial
theorem hd.tw14300336196451506227 : True := trivial
theorem hd.tw15508118284638136584 : True := trivial
theorem hd.tw13628220790608175372 : True := trivial
theorem hd.tw2136194114636685380 : True := trivial
theorem hd.tw11492342456378657631 : True := trivial
theorem hd.tw3655507648810781596 : True := trivial
theorem hd.tw13448424346430052382 : True := trivial
theorem hd.tw17626200418536367938 : True := trivial
theorem hd.tw15725120350956283678 : True := trivial
theorem hd.tw13990320014259344748 : True := trivial
theorem hd.tw16846539827225386184 : True := trivial
theorem hd.tw17578815544044162962 : True := trivial
theorem hd.tw1435891738330558261 : True := trivial
theorem hd.tw6862428949485634783 : True := trivial
theorem hd.tw16488944431586773668 : True := trivial
theorem hd.tw10698109632298494778 : True := trivial
theorem hd.tw408977951276686943 : True := trivial
theorem hd.tw6039004020146423766 : True := trivial
theorem hd.tw3610283999463650359 : True := trivial
theorem hd.tw13922238586791220993 : True := trivial
theorem hd.tw11179659549162779974 : True := trivial
theorem hd.tw2226253342495573921 : True := trivial
theorem hd.tw16988006435596122056 : True := trivial
theorem hd.tw15573759203922651598 : True := trivial
theorem hd.tw15986581885123904382 : True := trivial
theorem hd.tw5329235603500143787 : True := trivial
theorem hd.tw3084239586833138981 : True := trivial
theorem hd.tw17665620415775111955 : True := trivial
theorem hd.tw15844554191379139909 : True := trivial
theorem hd.tw4821064188788091016 : True := trivial
theorem hd.tw16604451495188342359 : True := trivial
theorem hd.tw6007133085073125329 : True := trivial
theorem hd.tw17492355559367422886 : True := trivial
theorem hd.tw9004029928370385608 : True := trivial
theorem hd.tw2338743109834931817 : True := trivial
theorem hd.tw14484636670688306739 : True := trivial
theorem hd.tw5756820219724889684 : True := trivial
theorem hd.tw11855427374546393997 : True := trivial
theorem hd.tw16450247232045729027 : True := trivial
theorem hd.tw2708467343338459521 : True := trivial
theorem hd.tw13800842341178482176 : True := trivial
theorem hd.tw1301695470786171662 : True := trivial
theorem hd.tw13583894464772101564 : True := trivial
theorem hd.tw2709123268074512972 : True := trivial
theorem hd.tw182436092612430831 : True := trivial
theorem hd.tw10878553192057180749 : True := trivial
theorem hd.tw13090155815397004738 : True := trivial
theorem hd.tw3672839631203725671 : True := trivial
theorem hd.tw7281578480707235783 : True := trivial
theorem hd.tw2255661418415866700 : True := trivial
theorem hd.tw5290219355730210560 : True := trivial
theorem hd.tw15319912851886206363 : True := trivial
theorem hd.tw13933624421505338719 : True := trivial
theorem hd.tw14826590571533335283 : True := trivial
theorem hd.tw16688170868743163097 : True := trivial
theorem hd.tw5729579912517890033 : True := trivial
theorem hd.tw8130727234275078676 : True := trivial
theorem hd.tw4992172030453717952 : True := trivial
theorem hd.tw2617348660545453818 : True := trivial
theorem hd.tw2138770012966157423 : True := trivial
theorem hd.tw12468241159622037712 : True := trivial
theorem hd.tw6136128641237860445 : True := trivial
theorem hd.tw5903302514825508785 : True := trivial
theorem hd.tw8141599468732967193 : True := trivial
theorem hd.tw13695122568318661411 : True := trivial
theorem hd.tw12260125091122168858 : True := trivial
theorem hd.tw13854134126996601518 : True := trivial
theorem hd.tw11286592743055214372 : True := trivial
theorem hd.tw470696623722940430 : True := trivial
theorem hd.tw6010014192094859660 : True := trivial
theorem hd.tw5570134155519924247 : True := trivial
theorem hd.tw13565998052401257156 : True := trivial
theorem hd.tw8528998797146225337 : True := trivial
theorem hd.tw17514964662847655385 : True := trivial
theorem hd.tw12378112618228969404 : True := trivial
theorem hd.tw13713263305350505476 : True := trivial
theorem hd.tw2780520241578548744 : True := trivial
theorem hd.tw14414198680441676709 : True := trivial
theorem hd.tw2925967568330699518 : True := trivial
theorem hd.tw17250776655781606828 : True := trivial
theorem hd.tw13097777161000804679 : True := trivial
theorem hd.tw17869424995340436953 : True := trivial
theorem hd.tw10854276699787146480 : True := trivial
theorem hd.tw8201449717487046648 : True := trivial
theorem hd.tw5281865867656571454 : True := trivial
theorem hd.tw9711991858932164410 : True := trivial
theorem hd.tw16255989675370505276 : True := trivial
theorem hd.tw1025890461730586110 : True := trivial
theorem hd.tw14111359875473608102 : True := trivial
theorem hd.tw2293408031213482841 : True := trivial
theorem hd.tw408594011113533019 : True := trivial
theorem hd.tw18152281174004312405 : True := trivial
theorem hd.tw9775972192657627185 : True := trivial
theorem hd.tw5300789426283030182 : True := trivial
theorem hd.tw12767875100479925643 : True := trivial
theorem hd.tw5551651812692683770 : True := trivial
theorem hd.tw10617542205692081675 : True := trivial
theorem hd.tw5685733260000865836 : True := trivial
theorem hd.tw16717989003029227287 : True := trivial
theorem hd.tw7550125529003847717 : True := trivial
theorem hd.tw1716267819050622688 : True := trivial
theorem hd.tw9416222036431969797 : True := trivial
theorem hd.tw6816533240452741891 : True := trivial
theorem hd.tw4160099434736665931 : True := trivial
theorem hd.tw5472844156738945183 : True := trivial
theorem hd.tw14723784621005991880 : True := trivial
theorem hd.tw16634999209334373103 : True := trivial
theorem hd.tw11120089102985031159 : True := trivial
theorem hd.tw14065913929902622290 : True := trivial
theorem hd.tw13953788954674367375 : True := trivial
theorem hd.tw1044247788017976651 : True := trivial
theorem hd.tw9296084315449203070 : True := trivial
theorem hd.tw1045438492885105477 : True := trivial
theorem hd.tw14064095505396798790 : True := trivial
theorem hd.tw3505800719992520108 : True := trivial
theorem hd.tw13652346985964341682 : True := trivial
theorem hd.tw18217556447255684452 : True := trivial
theorem hd.tw12307844552779058908 : True := trivial
theorem hd.tw16368531317583681704 : True := trivial
theorem hd.tw3207705380654775578 : True := trivial
theorem hd.tw2098127471229413854 : True := trivial
theorem hd.tw382734672317433225 : True := trivial
theorem hd.tw9647245893605411088 : True := trivial
theorem hd.tw15894636104660933686 : True := trivial
theorem hd.tw6459212183279389859 : True := trivial
theorem hd.tw13983598863620976478 : True := trivial
theorem hd.tw814025024406161579 : True := trivial
theorem hd.tw30648681985093238 : True := trivial
theorem hd.tw3630754391558938688 : True := trivial
theorem hd.tw4827813212010883576 : True := trivial
theorem hd.tw967847743141690889 : True := trivial
theorem hd.tw2039478796833744298 : True := trivial
theorem hd.tw16226565223734178195 : True := trivial
theorem hd.tw760773500210892774 : True := trivial
theorem hd.tw12896850858695567529 : True := trivial
theorem hd.tw17611091963141149869 : True := trivial
theorem hd.tw12902331154439868914 : True := trivial
theorem hd.tw16514271725319142572 : True := trivial
theorem hd.tw9073062183707857183 : True := trivial
theorem hd.tw11996275232665634747 : True := trivial
theorem hd.tw721572223915264370 : True := trivial
theorem hd.tw5843158268126101572 : True := trivial
theorem hd.tw15702548198302236723 : True := trivial
theorem hd.tw2404365130614746211 : True := trivial
theorem hd.tw12564853732865640943 : True := trivial
theorem hd.tw10493740626218120964 : True := trivial
theorem hd.tw14372575157218536179 : True := trivial
theorem hd.tw1970679229283278532 : True := trivial
theorem hd.tw2902570611311484860 : True := trivial
theorem hd.tw5448543777486449149 : True := trivial
theorem hd.tw2407592426637657219 : True := trivial
theorem hd.tw7264363331720848136 : True := trivial
theorem hd.tw16087273251912725127 : True := trivial
theorem hd.tw16541703958973117687 : True := trivial
theorem hd.tw10980577490300461044 : True := trivial
theorem hd.tw5805492734937110807 : True := trivial
theorem hd.tw1921535873438485553 : True := trivial
theorem hd.tw5692998383668941438 : True := trivial
theorem hd.tw8668289861090651078 : True := trivial
theorem hd.tw7991991447154151315 : True := trivial
theorem hd.tw5926125780679101992 : True := trivial
theorem hd.tw16859912664985698840 : True := trivial
theorem hd.tw16531394935023461019 : True := trivial
theorem hd.tw4539680228309853550 : True := trivial
theorem hd.tw1986123409236049700 : True := trivial
theorem hd.tw9092172828020113388 : True := trivial
theorem hd.tw8465077653960868453 : True := trivial
theorem hd.tw3189997779299171692 : True := trivial
theorem hd.tw15014220241229758811 : True := trivial
theorem hd.tw6956993560058218887 : True := trivial
theorem hd.tw15230521807692907253 : True := trivial
theorem hd.tw3543216103983145979 : True := trivial
theorem hd.tw13751366971361723874 : True := trivial
theorem hd.tw10262336412779899646 : True := trivial
theorem hd.tw12780318597927077035 : True := trivial
theorem hd.tw18006239103567890714 : True := trivial
theorem hd.tw11575441281712499147 : True := trivial
theorem hd.tw4553897564324193028 : True := trivial
theorem hd.tw5355243051243158779 : True := trivial
theorem hd.tw1616026159928462185 : True := trivial
theorem hd.tw13089469514779610720 : True := trivial
theorem hd.tw5016384651051789926 : True := trivial
theorem hd.tw4675431214190788390 : True := trivial
theorem hd.tw16903584885365238695 : True := trivial
theorem hd.tw14589637983008860844 : True := trivial
theorem hd.tw16657499729310387579 : True := trivial
theorem hd.tw2609381289525443042 : True := trivial
theorem hd.tw8866444266750799922 : True := trivial
theorem hd.tw4960646783379393880 : True := trivial
theorem hd.tw16164517019449344442 : True := trivial
theorem hd.tw5523841129372026443 : True := trivial
theorem hd.tw17660992231496346517 : True := trivial
theorem hd.tw10117728225914370589 : True := trivial
theorem hd.tw4284313643251479692 : True := trivial
theorem hd.tw14444227426182397735 : True := trivial
theorem hd.tw2762784861958898427 : True := trivial
theorem hd.tw16467608831973807408 : True := trivial
theorem hd.tw2060182067164685667 : True := trivial
theorem hd.tw6382126949025936344 : True := trivial
theorem hd.tw7972586887669861913 : True := trivial
theorem hd.tw2882431628806762656 : True := trivial
theorem hd.tw6156828351392461258 : True := trivial
theorem hd.tw16592222443703586832 : True := trivial
theorem hd.tw17527584934384456303 : True := trivial
theorem hd.tw15284306368996923195 : True := trivial
theorem hd.tw15773844123858259030 : True := trivial
theorem hd.tw12123594454044960820 : True := trivial
theorem hd.tw3047411691399296232 : True := trivial
theorem hd.tw11380776114712877019 : True := trivial
theorem hd.tw14584018584934006721 : True := trivial
theorem hd.tw4165307271264272490 : True := trivial
theorem hd.tw14531702735956654676 : True := trivial
theorem hd.tw4933861434595254921 : True := trivial
theorem hd.tw1270229720322455444 : True := trivial
theorem hd.tw17138112490850735374 : True := trivial
theorem hd.tw12743071675442335721 : True := trivial
theorem hd.tw18170198927321838470 : True := trivial
theorem hd.tw12143891127214484888 : True := trivial
theorem hd.tw1881889968271093416 : True := trivial
theorem hd.tw2536093627127867901 : True := trivial
theorem hd.tw17296854256190781154 : True := trivial
theorem hd.tw5909472392278663962 : True := trivial
theorem hd.tw16116274563659549721 : True := trivial
theorem hd.tw1032437814440577645 : True := trivial
theorem hd.tw16459040862540704323 : True := trivial
theorem hd.tw17317942093505141927 : True := trivial
theorem hd.tw6749010459497472665 : True := trivial
theorem hd.tw8687878657566974174 : True := trivial
theorem hd.tw10921996243947599545 : True := trivial
theorem hd.tw11875983927858831771 : True := trivial
theorem hd.tw16310124198817345999 : True := trivial
theorem hd.tw9261296543388510002 : True := trivial
theorem hd.tw3974532741274194799 : True := trivial
theorem hd.tw15190482070243804483 : True := trivial
theorem hd.tw3812487851310177051 : True := trivial
theorem hd.tw5836421835857952908 : True := trivial
theorem hd.tw17754599404496203213 : True := trivial
theorem hd.tw4829188442980067212 : True := trivial
theorem hd.tw7565739296918703580 : True := trivial
theorem hd.tw17006063948206132919 : True := trivial
theorem hd.tw12204204342451539717 : True := trivial
theorem hd.tw2025059285204377742 : True := trivial
theorem hd.tw13901599580920953635 : True := trivial
theorem hd.tw17700729929258646804 : True := trivial
theorem hd.tw1267311890580541282 : True := trivial
theorem hd.tw9769198157692798149 : True := trivial
theorem hd.tw14029714216401474169 : True := trivial
theorem hd.tw6212406991886528550 : True := trivial
theorem hd.tw5091012111857314996 : True := trivial
theorem hd.tw8805973563338626558 : True := trivial
theorem hd.tw9189689018386365971 : True := trivial
theorem hd.tw1801785459575410349 : True := trivial
theorem hd.tw17190964046115442804 : True := trivial
theorem hd.tw12986855699777463912 : True := trivial
theorem hd.tw7702117243649777636 : True := trivial
theorem hd.tw6767435084831992512 : True := trivial
theorem hd.tw8360953502657871662 : True := trivial
theorem hd.tw13450039889451928206 : True := trivial
theorem hd.tw15395411505688083810 : True := trivial
theorem hd.tw12862198013680128523 : True := trivial
theorem hd.tw3905285848700928267 : True := trivial
theorem hd.tw428237396990602316 : True := trivial
theorem hd.tw10160655439367789725 : True := trivial
theorem hd.tw13347022577230939858 : True := trivial
theorem hd.tw6579828130340397581 : True := trivial
theorem hd.tw1514824225452836145 : True := trivial
theorem hd.tw6628926850358197919 : True := trivial
theorem hd.tw11435749321165957339 : True := trivial
theorem hd.tw2661782855110154732 : True := trivial
theorem hd.tw3171000377966587070 : True := trivial
theorem hd.tw17271410764011845949 : True := trivial
theorem hd.tw15298197380555833614 : True := trivial
theorem hd.tw12535996343806017668 : True := trivial
theorem hd.tw4581963238660846454 : True := trivial
theorem hd.tw4571901604345097801 : True := trivial
theorem hd.tw4043083645594664357 : True := trivial
theorem hd.tw5431625162037377292 : True := trivial
theorem hd.tw11539952803163887381 : True := trivial
theorem hd.tw12658903319159420705 : True := trivial
theorem hd.tw8220533484652382536 : True := trivial
theorem hd.tw15887110361570285876 : True := trivial
theorem hd.tw16654290609675895526 : True := trivial
theorem hd.tw3647720056596322078 : True := trivial
theorem hd.tw16646568082665286454 : True := trivial
theorem hd.tw570224409888510672 : True := trivial
theorem hd.tw14229737644532187497 : True := trivial
theorem hd.tw12217094864574225044 : True := trivial
theorem hd.tw13553492904332070195 : True := trivial
theorem hd.tw715758544462997338 : True := trivial
theorem hd.tw11651320415718495279 : True := trivial
theorem hd.tw17945372058876959918 : True := trivial
theorem hd.tw6883208622464465586 : True := trivial
theorem hd.tw8401628227543641801 : True := trivial
theorem hd.tw354364762563689557 : True := trivial
theorem hd.tw11939552268063205493 : True := trivial
theorem hd.tw15385644948054796771 : True := trivial
theorem hd.tw2177740470076030210 : True := trivial
theorem hd.tw2285663488380516899 : True := trivial
theorem hd.tw17061167600137836762 : True := trivial
theorem hd.tw3783341724899194590 : True := trivial
theorem hd.tw15117129369954230941 : True := trivial
theorem hd.tw1520930788301414667 : True := trivial
theorem hd.tw16414991013585239083 : True := trivial
theorem hd.tw15050594785304107010 : True := trivial
theorem hd.tw8533233963327961278 : True := trivial
theorem hd.tw731602939035384688 : True := trivial
theorem hd.tw12522302984427525204 : True := trivial
theorem hd.tw8034765986958923925 : True := trivial
theorem hd.tw8626771937801407890 : True := trivial
theorem hd.tw11321975574510944004 : True := trivial
theorem hd.tw6651995964136375273 : True := trivial
theorem hd.tw1725230661025961860 : True := trivial
theorem hd.tw15099640842654656722 : True := trivial
theorem hd.tw10792859508510957695 : True := trivial
theorem hd.tw17828316236306192816 : True := trivial
theorem hd.tw11250953376948075059 : True := trivial
theorem hd.tw17328649152349325135 : True := trivial
theorem hd.tw3970070719153972094 : True := trivial
theorem hd.tw9992382104399143388 : True := trivial
theorem hd.tw15539647318353915528 : True := trivial
theorem hd.tw12471538022245674082 : True := trivial
theorem hd.tw9681526470478289372 : True := trivial
theorem hd.tw13553300959093697299 : True := trivial
theorem hd.tw2202213730789546409 : True := trivial
theorem hd.tw9290424940329383735 : True := trivial
theorem hd.tw11983590247173442313 : True := trivial
theorem hd.tw13284833170059403305 : True := trivial
theorem hd.tw9079654069836407199 : True := trivial
theorem hd.tw11180738525571931953 : True := trivial
theorem hd.tw9531184537042728208 : True := trivial
theorem hd.tw5139454438267939205 : True := trivial
theorem hd.tw17932786869733927470 : True := trivial
theorem hd.tw13067471477015641417 : True := trivial
theorem hd.tw2887943069247869214 : True := trivial
theorem hd.tw13624997453370097301 : True := trivial
theorem hd.tw14559120303971076285 : True := trivial
theorem hd.tw3359002616531234558 : True := trivial
theorem hd.tw12232922588359646486 : True := trivial
theorem hd.tw12430323697628311691 : True := trivial
theorem hd.tw12801095991283616396 : True := trivial
theorem hd.tw6920474812839675466 : True := trivial
theorem hd.tw15539372991960166492 : True := trivial
theorem hd.tw7715780865851621313 : True := trivial
theorem hd.tw18020037529741811918 : True := trivial
theorem hd.tw11534537774581394532 : True := trivial
theorem hd.tw16993766684046792306 : True := trivial
theorem hd.tw2778716634622229551 : True := trivial
theorem hd.tw11577093576558927485 : True := trivial
theorem hd.tw6630877996748299479 : True := trivial
theorem hd.tw7818557208877975667 : True := trivial
theorem hd.tw17350847532495820390 : True := trivial
theorem hd.tw12327066800691394700 : True := trivial
theorem hd.tw12144005059168606594 : True := trivial
theorem hd.tw1862308859005234284 : True := trivial
theorem hd.tw16003038826023024465 : True := trivial
theorem hd.tw5564048241032176100 : True := trivial
theorem hd.tw13312392438472503773 : True := trivial
theorem hd.tw9303499376590249989 : True := trivial
theorem hd.tw17520174881089387022 : True := trivial
theorem hd.tw727830134298055757 : True := trivial
theorem hd.tw13887360205694983565 : True := trivial
theorem hd.tw6932811345302899202 : True := trivial
theorem hd.tw13503823396321173125 : True := trivial
theorem hd.tw10615445661652183499 : True := trivial
theorem hd.tw9561058427017402924 : True := trivial
theorem hd.tw5461062228138343301 : True := trivial
theorem hd.tw5005881700808568803 : True := trivial
theorem hd.tw726509819343066685 : True := trivial
theorem hd.tw4265122591276527341 : True := trivial
theorem hd.tw16427692069152465691 : True := trivial
theorem hd.tw1620729859552119933 : True := trivial
theorem hd.tw8202424256511749076 : True := trivial
theorem hd.tw11328947944420180667 : True := trivial
theorem hd.tw5807164458902611312 : True := trivial
theorem hd.tw2370302960571378080 : True := trivial
theorem hd.tw13985369482314134855 : True := trivial
theorem hd.tw213390152689032371 : True := trivial
theorem hd.tw11759567282344917059 : True := trivial
theorem hd.tw9098482520919078704 : True := trivial
theorem hd.tw12354302736521913688 : True := trivial
theorem hd.tw11415045001079040901 : True := trivial
theorem hd.tw9495227150219349769 : True := trivial
theorem hd.tw3374708937086850220 : True := trivial
theorem hd.tw656115190633464457 : True := trivial
theorem hd.tw14350679674609895381 : True := trivial
theorem hd.tw14011761543025861598 : True := trivial
theorem hd.tw4610367247334675175 : True := trivial
theorem hd.tw9696827228377414014 : True := trivial
theorem hd.tw738575814711507441 : True := trivial
theorem hd.tw14307852106910627276 : True := trivial
theorem hd.tw895957911095204704 : True := trivial
theorem hd.tw11025580304982792712 : True := trivial
theorem hd.tw18382152046411866346 : True := trivial
theorem hd.tw15397230375302524603 : True := trivial
theorem hd.tw5406723823292803107 : True := trivial
theorem hd.tw7707653882240058961 : True := trivial
theorem hd.tw5023234879501567690 : True := trivial
theorem hd.tw17517558980432503686 : True := trivial
theorem hd.tw10883653608315571223 : True := trivial
theorem hd.tw17090730474806803782 : True := trivial
theorem hd.tw7718273878228071587 : True := trivial
theorem hd.tw14652053758124367455 : True := trivial
theorem hd.tw14993648861420954214 : True := trivial
theorem hd.tw8909016305946101461 : True := trivial
theorem hd.tw17881032674927547259 : True := trivial
theorem hd.tw10069754249376392295 : True := trivial
theorem hd.tw11036028607710592845 : True := trivial
theorem hd.tw3782656078202111528 : True := trivial
theorem hd.tw17752409894137859523 : True := trivial
theorem hd.tw15902421065844145110 : True := trivial
theorem hd.tw17321041285510790343 : True := trivial
theorem hd.tw3482838055806349755 : True := trivial
theorem hd.tw12114368580678637723 : True := trivial
theorem hd.tw18204786428519558527 : True := trivial
theorem hd.tw2953719613301791227 : True := trivial
theorem hd.tw13336736033138529823 : True := trivial
theorem hd.tw15203751909957241766 : True := trivial
theorem hd.tw1743704326851840701 : True := trivial
theorem hd.tw6159185368568263417 : True := trivial
theorem hd.tw6202596202648344687 : True := trivial
theorem hd.tw3509978671177152564 : True := trivial
theorem hd.tw15262599359291476522 : True := trivial
theorem hd.tw17580140894937032318 : True := trivial
theorem hd.tw15257101476237007453 : True := trivial
theorem hd.tw7075154812109511406 : True := trivial
theorem hd.tw1897816249660063822 : True := trivial
theorem hd.tw3861237278655975279 : True := trivial
theorem hd.tw8086810716615746579 : True := trivial
theorem hd.tw829052575869733071 : True := trivial
theorem hd.tw7518058715847797761 : True := trivial
theorem hd.tw3258924180504364609 : True := trivial
theorem hd.tw15971470341583150680 : True := trivial
theorem hd.tw3204546811515882477 : True := trivial
theorem hd.tw16795045892237800579 : True := trivial
theorem hd.tw9536741640648690728 : True := trivial
theorem hd.tw17011414307473719019 : True := trivial
theorem hd.tw14257775863221185657 : True := trivial
theorem hd.tw18374138999646350942 : True := trivial
theorem hd.tw8562529869069243519 : True := trivial
theorem hd.tw17154116442536745693 : True := trivial
theorem hd.tw14996150441053838656 : True := trivial
theorem hd.tw9966124046378193274 : True := trivial
theorem hd.tw15355104923311472900 : True := trivial
theorem hd.tw16785682975565431028 : True := trivial
theorem hd.tw8353643217333955283 : True := trivial
theorem hd.tw7288046465793668972 : True := trivial
theorem hd.tw798752697330505726 : True := trivial
theorem hd.tw13380376762884478128 : True := trivial
theorem hd.tw11524518813936816949 : True := trivial
theorem hd.tw1225843990834759763 : True := trivial
theorem hd.tw242171612484930897 : True := trivial
theorem hd.tw9249730827464631659 : True := trivial
theorem hd.tw8565883725100249977 : True := trivial
theorem hd.tw12242781191188289380 : True := trivial
theorem hd.tw9227546613312205131 : True := trivial
theorem hd.tw3216648277735599384 : True := trivial
theorem hd.tw1121440403650136196 : True := trivial
theorem hd.tw5882459720855196611 : True := trivial
theorem hd.tw78211482789248989 : True := trivial
theorem hd.tw13770743064916332045 : True := trivial
theorem hd.tw11922633434763126158 : True := trivial
theorem hd.tw10657903584800713069 : True := trivial
theorem hd.tw14865413202795547512 : True := trivial
theorem hd.tw17930345284515474300 : True := trivial
theorem hd.tw9914473628873825577 : True := trivial
theorem hd.tw1556090070329308036 : True := trivial
theorem hd.tw14981331241470303639 : True := trivial
theorem hd.tw15850825676202546982 : True := trivial
theorem hd.tw10413322129425695794 : True := trivial
theorem hd.tw11950026078405096615 : True := trivial
theorem hd.tw6472114833188673262 : True := trivial
theorem hd.tw10787733673331403637 : True := trivial
theorem hd.tw4378668892873084209 : True := trivial
theorem hd.tw8287608235766512712 : True := trivial
theorem hd.tw7808918414721404594 : True := trivial
theorem hd.tw18197366453481628306 : True := trivial
theorem hd.tw5511044163689939980 : True := trivial
theorem hd.tw12811059298794500070 : True := trivial
theorem hd.tw5272696694415919964 : True := trivial
theorem hd.tw15215187019459087809 : True := trivial
theorem hd.tw5184206336131035686 : True := trivial
theorem hd.tw13827613653002836576 : True := trivial
theorem hd.tw16316134139280467753 : True := trivial
theorem hd.tw7641793198188204914 : True := trivial
theorem hd.tw1957387495176884713 : True := trivial
theorem hd.tw6967096252055414437 : True := trivial
theorem hd.tw324662310474405845 : True := trivial
theorem hd.tw7095829997050923400 : True := trivial
theorem hd.tw10332744620061853531 : True := trivial
theorem hd.tw5355937095575969493 : True := trivial
theorem hd.tw16964299463251827204 : True := trivial
theorem hd.tw18366135871876873836 : True := trivial
theorem hd.tw12048037521772373564 : True := trivial
theorem hd.tw18113889707133970872 : True := trivial
theorem hd.tw10089040353436677076 : True := trivial
theorem hd.tw311739651666331655 : True := trivial
theorem hd.tw15185044105227392383 : True := trivial
theorem hd.tw15694396918119006045 : True := trivial
theorem hd.tw12708284363426833479 : True := trivial
theorem hd.tw5258969420135044802 : True := trivial
theorem hd.tw2918263025169947721 : True := trivial
theorem hd.tw2170647631914354023 : True := trivial
theorem hd.tw10643206706076206938 : True := trivial
theorem hd.tw6537640070262320200 : True := trivial
theorem hd.tw1355708506863162775 : True := trivial
theorem hd.tw8242327463447443502 : True := trivial
theorem hd.tw16580064636704125559 : True := trivial
theorem hd.tw14352226892061837876 : True := trivial
theorem hd.tw6755561595149171333 : True := trivial
theorem hd.tw1764194836000318160 : True := trivial
theorem hd.tw3648152580841532975 : True := trivial
theorem hd.tw11719236220860555063 : True := trivial
theorem hd.tw13197999557167132296 : True := trivial
theorem hd.tw1095798323697765965 : True := trivial
theorem hd.tw6237737641116544528 : True := trivial
theorem hd.tw16609880882563168704 : True := trivial
theorem hd.tw4138504455936555013 : True := trivial
theorem hd.tw9577122727568310413 : True := trivial
theorem hd.tw5869306636842244225 : True := trivial
theorem hd.tw8557176000917179603 : True := trivial
theorem hd.tw8859654680467181820 : True := trivial
theorem hd.tw2428356800770862176 : True := trivial
theorem hd.tw15013120000365638885 : True := trivial
theorem hd.tw14667971519717913173 : True := trivial
theorem hd.tw6635978837755819283 : True := trivial
theorem hd.tw8557241188069993131 : True := trivial
theorem hd.tw10775302779129371499 : True := trivial
theorem hd.tw14022792773076761505 : True := trivial
theorem hd.tw7747553795694146078 : True := trivial
theorem hd.tw14972369259169306000 : True := trivial
theorem hd.tw5802515220506181093 : True := trivial
theorem hd.tw2167803022907875255 : True := trivial
theorem hd.tw4714559462851266462 : True := trivial
theorem hd.tw8888997110703492544 : True := trivial
theorem hd.tw12956096183936707543 : True := trivial
theorem hd.tw12237198807168667813 : True := trivial
theorem hd.tw1570087360202116498 : True := trivial
theorem hd.tw3017984904500956850 : True := trivial
theorem hd.tw1047922485485019736 : True := trivial
theorem hd.tw8264764511174242796 : True := trivial
theorem hd.tw1499248340748464200 : True := trivial
theorem hd.tw17929928581653995073 : True := trivial
theorem hd.tw17393697626906540009 : True := trivial
theorem hd.tw13881418890060661653 : True := trivial
theorem hd.tw6775127187376579218 : True := trivial
theorem hd.tw15896709214442178031 : True := trivial
theorem hd.tw307377517886914951 : True := trivial
theorem hd.tw4233940418660889700 : True := trivial
theorem hd.tw7112450529963374615 : True := trivial
theorem hd.tw17154220135406897602 : True := trivial
theorem hd.tw8593358686844858794 : True := trivial
theorem hd.tw1766334597562166156 : True := trivial
theorem hd.tw12099196179277871653 : True := trivial
theorem hd.tw12912559081153576908 : True := trivial
theorem hd.tw15090307506968464560 : True := trivial
theorem hd.tw10472302885702307353 : True := trivial
theorem hd.tw8979264011580769156 : True := trivial
theorem hd.tw9815460706466040440 : True := trivial
theorem hd.tw8851114695871614171 : True := trivial
theorem hd.tw2091225965973526739 : True := trivial
theorem hd.tw4250434289916739234 : True := trivial
theorem hd.tw16564813370207611933 : True := trivial
theorem hd.tw11555148772226164678 : True := trivial
theorem hd.tw10700309025956301561 : True := trivial
theorem hd.tw10727458269584044677 : True := trivial
theorem hd.tw10291424796280017206 : True := trivial
theorem hd.tw11282140694303877418 : True := trivial
theorem hd.tw1273855381155952208 : True := trivial
theorem hd.tw4514330607274183165 : True := trivial
theorem hd.tw15140201575647514497 : True := trivial
theorem hd.tw7422139729652987768 : True := trivial
theorem hd.tw2023761276592635745 : True := trivial
theorem hd.tw12682768915946952515 : True := trivial
theorem hd.tw14458481450366190309 : True := trivial
theorem hd.tw4633483824039155152 : True := trivial
theorem hd.tw11547559754410097482 : True := trivial
theorem hd.tw9273138666911438704 : True := trivial
theorem hd.tw16609271646542087034 : True := trivial
theorem hd.tw14227828210992511038 : True := trivial
theorem hd.tw15918265769043760028 : True := trivial
theorem hd.tw2600390493673497710 : True := trivial
theorem hd.tw18319494673532675552 : True := trivial
theorem hd.tw287001110463594455 : True := trivial
theorem hd.tw4529811009013460739 : True := trivial
theorem hd.tw13860555625860397667 : True := trivial
theorem hd.tw11499668462364128680 : True := trivial
theorem hd.tw11061772038380436450 : True := trivial
theorem hd.tw12596217305668326358 : True := trivial
theorem hd.tw17774723622148853205 : True := trivial
theorem hd.tw16981418000123868263 : True := trivial
theorem hd.tw14368456621979536219 : True := trivial
theorem hd.tw12820146907462269992 : True := trivial
theorem hd.tw7804829357456986369 : True := trivial
theorem hd.tw4391071942826220811 : True := trivial
theorem hd.tw965341926874299885 : True := trivial
theorem hd.tw15057366184172929526 : True := trivial
theorem hd.tw6363224556238017492 : True := trivial
theorem hd.tw10434351450341251775 : True := trivial
set_option Elab.async true in
set_option maxRecDepth 100000 in
set_option maxHeartbeats 8000000 in
theorem hd : PySem.Challenge.rw_nt0211_01.Holds := by
  w_on
  o_law
  o_head (kHook NT.hdA.heap_1 [2, 3, 15, 17, 18, 20, 21, 22, 29, 31, 32, 34, 35, 36, 37, 38, 39, 42, 49, 51, 52, 54, 55, 56, 57, 58, 61, 68, 70, 71, 73, 74, 75, 76, 77, 87, 89, 90, 92, 93, 94, 95, 96, 97, 98, 101, 103, 104, 106, 107, 108, 110, 111, 113, 114, 115, 117, 118, 120, 121, 122, 124, 125, 127, 128, 129, 131, 132, 134, 135, 136, 138, 139, 141, 142, 143, 145, 146, 148, 149, 150, 152, 153, 155, 156, 157, 159, 160, 162, 163, 164, 166, 167, 169, 170, 171, 173, 174, 176, 177, 178, 180, 181, 183, 184, 185, 187, 188, 190, 191, 192, 194, 195, 197, 198, 199, 201, 202, 204, 205, 206, 208, 209, 211, 212, 213, 215, 216, 218, 219, 220, 222, 223, 225, 226, 227, 229, 230, 232, 233, 234, 236, 237, 239, 240, 241, 243, 244, 246, 247, 255, 257, 258, 260, 261, 262, 263, 264, 265, 266, 269, 271, 272, 274, 275, 276, 278, 279, 281, 282, 283, 285, 286, 288, 289, 290, 292, 293, 295, 296, 297, 299, 300, 302, 303, 304, 306, 307, 309, 310, 311, 313, 314, 316, 317, 318, 320, 321, 323, 324, 325, 327, 328, 330, 331, 332, 334, 335, 337, 338, 339, 341, 342, 344, 345, 346, 348, 349, 351, 352, 353, 355, 356, 358, 359, 360, 362, 363, 365, 366, 367, 369, 370, 372, 373, 374, 376, 377, 379, 380, 381, 383, 384, 386, 387, 388, 390, 391, 393, 394, 402, 404, 405, 407, 408, 409, 411, 412, 414, 415, 416, 418, 419, 421, 422, 423, 425, 426, 428, 429, 430, 432, 433, 435, 436, 437, 439, 440, 442, 443, 444, 446, 447, 449, 450, 451, 453, 454, 456, 457, 458, 460, 461, 463, 464, 465, 467, 468, 470, 471, 472, 474, 475, 477, 478, 479, 481, 482, 484, 485, 486, 488, 489, 491, 492, 493, 495, 496, 498, 499, 500, 502, 503, 505, 506, 507, 509, 510, 512, 513, 514, 516, 517, 519, 520, 521, 523, 524, 526, 527, 528, 530, 531, 533, 534, 535, 537, 538, 540, 541, 542, 544, 545, 547, 548, 549, 551, 552, 554, 555, 556, 558, 559, 561, 562, 563, 565, 566, 568, 569, 570, 572, 573, 575, 576, 577, 579, 580, 582, 583, 584, 586, 587, 589, 590, 591, 593, 594, 596, 597, 598, 600, 601, 603, 604, 605, 607, 608, 610, 611, 612, 614, 615, 617, 618, 619, 621, 622, 624, 625, 626, 628, 629, 631, 632, 633, 635, 636, 638, 639, 640, 642, 643, 645, 646, 647, 649, 650, 652, 653, 654, 656, 657, 659, 660, 661, 663, 664, 666, 667, 668, 670, 671, 673, 674, 675, 677, 678, 680, 681, 682, 683, 684, 685, 686, 689, 691, 692, 694, 695, 696, 698, 699, 701, 702, 703, 705, 706, 708, 709, 710, 712, 713, 715, 716, 717, 719, 720, 722, 723, 724, 726, 727, 729, 730, 731, 733, 734, 736, 737, 738, 740, 741, 743, 744, 745, 747, 748, 750, 751, 752, 755, 756, 757, 760, 761] (fun _ => by kernel_rfl))
  case hw => w_witness2
  exact lawW
end
end NT
theorem PySem.Challenge.cw_nt0211_01_holds : PySem.Challenge.rw_nt0211_01.Holds :=
  NT.hd
